/- utf8.Valid: its walk, at texts of up to 40 bytes. Conditions: the two tables of utf8. Printed by gen_valid.py. -/
import Derived.Test.YtalcpfpjkfpmbaaDoorCodeT
import Derived.Test.YtalcpfpjkfpmbaaDoorCodeF
import Derived.Lib.ValidAsc
namespace Go.Proofs.YtalcpfpjkfpmbaaDoor.Vm
open Go Go.RowKit Go.Lib
set_option linter.unusedVariables false
set_option linter.unusedSimpArgs false
attribute [local irreducible] Ops Dr Run eightU esc turnU oneP encP
variable {g : Nat → Option (List PV)}
/-- Bytes as numbers. -/
def tb (t : List UInt8) : List Int := t.map fun c => ((c.toNat : Nat) : Int)
theorem tb_len (t : List UInt8) : (tb t).length = t.length := by simp [tb]
theorem tb_map_len (t : List UInt8) : ((tb t).map (PV.int .u8)).length = t.length := by simp [tb]
theorem tb_at {t : List UInt8} {i : Nat} {c : UInt8} (h : t[i]? = some c) : ((tb t).map (PV.int .u8))[i]? = some (.int .u8 ((c.toNat : Nat) : Int)) := by
  unfold tb
  rw [List.getElem?_map, List.getElem?_map, h]; rfl
theorem tb_drop (t : List UInt8) (k : Nat) : (((tb t).map (PV.int .u8)).take ((((tb t).map (PV.int .u8)).length : Nat) : Int).toNat).drop k = (tb (t.drop k)).map (PV.int .u8) := by
  rw [Int.toNat_natCast, List.take_length]
  unfold tb
  rw [← List.map_drop, ← List.map_drop]
theorem or_add (S x k : Nat) (h : S < 2 ^ k) : S ||| x * 2 ^ k = S + x * 2 ^ k := by
  have := Nat.two_pow_add_eq_or_of_lt h x
  rw [Nat.or_comm, Nat.mul_comm x, ← this, Nat.add_comm]
theorem or_w {S x k : Nat} (hS : S < 2 ^ k) (hx : x < 256) (hk : k ≤ 56) : bitI .or .u64 (S : Int) ((x * 2 ^ k : Nat) : Int) = some ((S + x * 2 ^ k : Nat) : Int) := by
  have h1 : 2 ^ k ≤ 2 ^ 56 := Nat.pow_le_pow_right (by decide) hk
  have h2 : (2 : Nat) ^ 56 = 72057594037927936 := by decide +kernel
  have h3 : x * 2 ^ k ≤ 255 * 2 ^ k := Nat.mul_le_mul_right _ (by omega)
  have := u64_or_nat S (x * 2 ^ k) (by omega) (by omega)
  rw [or_add S x k hS] at this
  exact congrArg some this
theorem wr64 {n : Nat} (h : n < 18446744073709551616) : IntKind.u64.wrap ((n : Nat) : Int) = ((n : Nat) : Int) := by
  rw [IntKind.wrap_u64]; omega
theorem shl_w {x : Nat} (hx : x < 256) (j : Int) (k : Nat) (hj : j.toNat = k) (hk : k ≤ 56) : IntKind.u64.wrap (((x : Nat) : Int) * 2 ^ (min j.toNat IntKind.u64.bits)) = ((x * 2 ^ k : Nat) : Int) := by
  have h0 : min j.toNat IntKind.u64.bits = k := by rw [hj]; show min k 64 = k; omega
  have h1 : 2 ^ k ≤ 2 ^ 56 := Nat.pow_le_pow_right (by decide) hk
  have h2 : (2 : Nat) ^ 56 = 72057594037927936 := by decide +kernel
  have h3 : x * 2 ^ k ≤ 255 * 2 ^ k := Nat.mul_le_mul_right _ (by omega)
  rw [h0, show (((x : Nat) : Int) * 2 ^ k) = ((x * 2 ^ k : Nat) : Int) by simp, wr64 (by omega)]
set_option maxRecDepth 100000 in
theorem word_ex {t : List UInt8} (h8 : 8 ≤ t.length) : ∃ W : Nat, W < 18446744073709551616 ∧ (W &&& 9259542123273814144 = 0 ↔ ∀ b ∈ t.take 8, b.toNat < 128) ∧ FnC (En Tryd.prog g) 45 [.pv (byv (tb t))] (.pv (.int .u64 (W : Int))) [] := by
  have hE := EnOk g
  obtain ⟨x0, x1, x2, x3, x4, x5, x6, x7, r, rfl⟩ : ∃ x0 x1 x2 x3 x4 x5 x6 x7 r, t = x0 :: x1 :: x2 :: x3 :: x4 :: x5 :: x6 :: x7 :: r := by
    match t, h8 with
    | x0 :: x1 :: x2 :: x3 :: x4 :: x5 :: x6 :: x7 :: r, _ => exact ⟨x0, x1, x2, x3, x4, x5, x6, x7, r, rfl⟩
  clear h8
  have hW := leNat_mask [x0, x1, x2, x3, x4, x5, x6, x7]
  have hlt := leNat_lt [x0, x1, x2, x3, x4, x5, x6, x7]
  rw [show ([x0, x1, x2, x3, x4, x5, x6, x7] : List UInt8).length = 8 from rfl, maskN8] at hW
  refine ⟨leNat [x0, x1, x2, x3, x4, x5, x6, x7], by simpa using hlt, by simpa using hW, ?_⟩
  clear hW hlt
  have y0 : x0.toNat < 256 := x0.toNat_lt
  have y1 : x1.toNat < 256 := x1.toNat_lt
  have y2 : x2.toNat < 256 := x2.toNat_lt
  have y3 : x3.toNat < 256 := x3.toNat_lt
  have y4 : x4.toNat < 256 := x4.toNat_lt
  have y5 : x5.toNat < 256 := x5.toNat_lt
  have y6 : x6.toNat < 256 := x6.toNat_lt
  have y7 : x7.toNat < 256 := x7.toNat_lt
  have hv : leNat [x0, x1, x2, x3, x4, x5, x6, x7] = x0.toNat + x1.toNat * 2 ^ 8 + x2.toNat * 2 ^ 16 + x3.toNat * 2 ^ 24 + x4.toNat * 2 ^ 32 + x5.toNat * 2 ^ 40 + x6.toNat * 2 ^ 48 + x7.toNat * 2 ^ 56 := by simp only [leNat]; omega
  rw [hv]
  clear hv
  have cv0 := wr64 (n := x0.toNat) (by omega)
  have cv1 := wr64 (n := x1.toNat) (by omega)
  have cv2 := wr64 (n := x2.toNat) (by omega)
  have cv3 := wr64 (n := x3.toNat) (by omega)
  have cv4 := wr64 (n := x4.toNat) (by omega)
  have cv5 := wr64 (n := x5.toNat) (by omega)
  have cv6 := wr64 (n := x6.toNat) (by omega)
  have cv7 := wr64 (n := x7.toNat) (by omega)
  have sh1 := shl_w y1 8 8 rfl (by decide)
  have sh2 := shl_w y2 16 16 rfl (by decide)
  have sh3 := shl_w y3 24 24 rfl (by decide)
  have sh4 := shl_w y4 32 32 rfl (by decide)
  have sh5 := shl_w y5 40 40 rfl (by decide)
  have sh6 := shl_w y6 48 48 rfl (by decide)
  have sh7 := shl_w y7 56 56 rfl (by decide)
  have or1 := or_w (S := x0.toNat) (x := x1.toNat) (k := 8) (by omega) y1 (by decide)
  have or2 := or_w (S := x0.toNat + x1.toNat * 2 ^ 8) (x := x2.toNat) (k := 16) (by omega) y2 (by decide)
  have or3 := or_w (S := x0.toNat + x1.toNat * 2 ^ 8 + x2.toNat * 2 ^ 16) (x := x3.toNat) (k := 24) (by omega) y3 (by decide)
  have or4 := or_w (S := x0.toNat + x1.toNat * 2 ^ 8 + x2.toNat * 2 ^ 16 + x3.toNat * 2 ^ 24) (x := x4.toNat) (k := 32) (by omega) y4 (by decide)
  have or5 := or_w (S := x0.toNat + x1.toNat * 2 ^ 8 + x2.toNat * 2 ^ 16 + x3.toNat * 2 ^ 24 + x4.toNat * 2 ^ 32) (x := x5.toNat) (k := 40) (by omega) y5 (by decide)
  have or6 := or_w (S := x0.toNat + x1.toNat * 2 ^ 8 + x2.toNat * 2 ^ 16 + x3.toNat * 2 ^ 24 + x4.toNat * 2 ^ 32 + x5.toNat * 2 ^ 40) (x := x6.toNat) (k := 48) (by omega) y6 (by decide)
  have or7 := or_w (S := x0.toNat + x1.toNat * 2 ^ 8 + x2.toNat * 2 ^ 16 + x3.toNat * 2 ^ 24 + x4.toNat * 2 ^ 32 + x5.toNat * 2 ^ 40 + x6.toNat * 2 ^ 48) (x := x7.toNat) (k := 56) (by omega) y7 (by decide)
  have hlen : 8 ≤ ((tb (x0 :: x1 :: x2 :: x3 :: x4 :: x5 :: x6 :: x7 :: r)).map (PV.int .u8)).length := by rw [tb_map_len]; simp
  have hat0 : ((tb (x0 :: x1 :: x2 :: x3 :: x4 :: x5 :: x6 :: x7 :: r)).map (PV.int .u8))[(0 : Int).toNat]? = some (.int .u8 ((x0.toNat : Nat) : Int)) := rfl
  have hat1 : ((tb (x0 :: x1 :: x2 :: x3 :: x4 :: x5 :: x6 :: x7 :: r)).map (PV.int .u8))[(1 : Int).toNat]? = some (.int .u8 ((x1.toNat : Nat) : Int)) := rfl
  have hat2 : ((tb (x0 :: x1 :: x2 :: x3 :: x4 :: x5 :: x6 :: x7 :: r)).map (PV.int .u8))[(2 : Int).toNat]? = some (.int .u8 ((x2.toNat : Nat) : Int)) := rfl
  have hat3 : ((tb (x0 :: x1 :: x2 :: x3 :: x4 :: x5 :: x6 :: x7 :: r)).map (PV.int .u8))[(3 : Int).toNat]? = some (.int .u8 ((x3.toNat : Nat) : Int)) := rfl
  have hat4 : ((tb (x0 :: x1 :: x2 :: x3 :: x4 :: x5 :: x6 :: x7 :: r)).map (PV.int .u8))[(4 : Int).toNat]? = some (.int .u8 ((x4.toNat : Nat) : Int)) := rfl
  have hat5 : ((tb (x0 :: x1 :: x2 :: x3 :: x4 :: x5 :: x6 :: x7 :: r)).map (PV.int .u8))[(5 : Int).toNat]? = some (.int .u8 ((x5.toNat : Nat) : Int)) := rfl
  have hat6 : ((tb (x0 :: x1 :: x2 :: x3 :: x4 :: x5 :: x6 :: x7 :: r)).map (PV.int .u8))[(6 : Int).toNat]? = some (.int .u8 ((x6.toNat : Nat) : Int)) := rfl
  have hat7 : ((tb (x0 :: x1 :: x2 :: x3 :: x4 :: x5 :: x6 :: x7 :: r)).map (PV.int .u8))[(7 : Int).toNat]? = some (.int .u8 ((x7.toNat : Nat) : Int)) := rfl
  generalize tb (x0 :: x1 :: x2 :: x3 :: x4 :: x5 :: x6 :: x7 :: r) = q at *
  generalize x0.toNat = z0 at *
  generalize x1.toNat = z1 at *
  generalize x2.toNat = z2 at *
  generalize x3.toNat = z3 at *
  generalize x4.toNat = z4 at *
  generalize x5.toNat = z5 at *
  generalize x6.toNat = z6 at *
  generalize x7.toNat = z7 at *
  refine FnC.of Tryd.func45 rfl rfl rfl rfl ?_
  repeat (first | refine Run.seq ?_ | refine Run.skip ?_ | refine Run.block ?_)
  refine Run.region ?_
  refine O.assign rfl rfl ?_
  refine O.nil ?_
  try refine Run.keep [0, 2] rfl rfl ?_
  repeat (first | refine Run.seq ?_ | refine Run.skip ?_)
  first | refine Run.condT rfl rfl ?_ | refine Run.condF rfl rfl ?_ | refine Run.condT rfl (by assumption) ?_ | refine Run.condF rfl (by assumption) ?_
  repeat (first | refine Run.seq ?_ | refine Run.skip ?_ | refine Run.block ?_)
  refine Run.draw mixed rfl ?_
  refine D.move rfl rfl ?_
  refine D.index hE T27 rfl T5 rfl rfl newest_pv rfl (by omega) hat0 rfl rfl rfl ?_
  first | refine D.loadS hE T5 rfl rfl rfl (by rfl) rfl ?_ | refine D.loadE hE T5 rfl rfl (by rfl) rfl ?_ | refine D.load hE T5 rfl rfl rfl rfl ?_
  refine D.conv hE T5 T58 rfl rfl rfl ?_; rw [cv0]
  refine D.move rfl rfl ?_
  refine D.index hE T27 rfl T5 rfl rfl newest_pv rfl (by omega) hat1 rfl rfl rfl ?_
  first | refine D.loadS hE T5 rfl rfl rfl (by rfl) rfl ?_ | refine D.loadE hE T5 rfl rfl (by rfl) rfl ?_ | refine D.load hE T5 rfl rfl rfl rfl ?_
  refine D.conv hE T5 T58 rfl rfl rfl ?_; rw [cv1]
  refine D.shl rfl rfl (by omega) rfl ?_; rw [sh1]
  refine D.bit rfl rfl or1 rfl ?_
  refine D.move rfl rfl ?_
  refine D.index hE T27 rfl T5 rfl rfl newest_pv rfl (by omega) hat2 rfl rfl rfl ?_
  first | refine D.loadS hE T5 rfl rfl rfl (by rfl) rfl ?_ | refine D.loadE hE T5 rfl rfl (by rfl) rfl ?_ | refine D.load hE T5 rfl rfl rfl rfl ?_
  refine D.conv hE T5 T58 rfl rfl rfl ?_; rw [cv2]
  refine D.shl rfl rfl (by omega) rfl ?_; rw [sh2]
  refine D.bit rfl rfl or2 rfl ?_
  refine D.move rfl rfl ?_
  refine D.index hE T27 rfl T5 rfl rfl newest_pv rfl (by omega) hat3 rfl rfl rfl ?_
  first | refine D.loadS hE T5 rfl rfl rfl (by rfl) rfl ?_ | refine D.loadE hE T5 rfl rfl (by rfl) rfl ?_ | refine D.load hE T5 rfl rfl rfl rfl ?_
  refine D.conv hE T5 T58 rfl rfl rfl ?_; rw [cv3]
  refine D.shl rfl rfl (by omega) rfl ?_; rw [sh3]
  refine D.bit rfl rfl or3 rfl ?_
  refine D.move rfl rfl ?_
  refine D.index hE T27 rfl T5 rfl rfl newest_pv rfl (by omega) hat4 rfl rfl rfl ?_
  first | refine D.loadS hE T5 rfl rfl rfl (by rfl) rfl ?_ | refine D.loadE hE T5 rfl rfl (by rfl) rfl ?_ | refine D.load hE T5 rfl rfl rfl rfl ?_
  refine D.conv hE T5 T58 rfl rfl rfl ?_; rw [cv4]
  refine D.shl rfl rfl (by omega) rfl ?_; rw [sh4]
  refine D.bit rfl rfl or4 rfl ?_
  refine D.move rfl rfl ?_
  refine D.index hE T27 rfl T5 rfl rfl newest_pv rfl (by omega) hat5 rfl rfl rfl ?_
  first | refine D.loadS hE T5 rfl rfl rfl (by rfl) rfl ?_ | refine D.loadE hE T5 rfl rfl (by rfl) rfl ?_ | refine D.load hE T5 rfl rfl rfl rfl ?_
  refine D.conv hE T5 T58 rfl rfl rfl ?_; rw [cv5]
  refine D.shl rfl rfl (by omega) rfl ?_; rw [sh5]
  refine D.bit rfl rfl or5 rfl ?_
  refine D.move rfl rfl ?_
  refine D.index hE T27 rfl T5 rfl rfl newest_pv rfl (by omega) hat6 rfl rfl rfl ?_
  first | refine D.loadS hE T5 rfl rfl rfl (by rfl) rfl ?_ | refine D.loadE hE T5 rfl rfl (by rfl) rfl ?_ | refine D.load hE T5 rfl rfl rfl rfl ?_
  refine D.conv hE T5 T58 rfl rfl rfl ?_; rw [cv6]
  refine D.shl rfl rfl (by omega) rfl ?_; rw [sh6]
  refine D.bit rfl rfl or6 rfl ?_
  refine D.move rfl rfl ?_
  refine D.index hE T27 rfl T5 rfl rfl newest_pv rfl (by omega) hat7 rfl rfl rfl ?_
  first | refine D.loadS hE T5 rfl rfl rfl (by rfl) rfl ?_ | refine D.loadE hE T5 rfl rfl (by rfl) rfl ?_ | refine D.load hE T5 rfl rfl rfl rfl ?_
  refine D.conv hE T5 T58 rfl rfl rfl ?_; rw [cv7]
  refine D.shl rfl rfl (by omega) rfl ?_; rw [sh7]
  refine D.bit rfl rfl or7 rfl ?_
  refine D.assign rfl rfl ?_
  refine Dr.nil ?_
  refine ⟨rfl, ?_⟩
  try refine Run.keep [0, 2] rfl rfl ?_
  (repeat (first | refine Run.seq ?_ | refine Run.skip ?_)); (try refine Run.ret ?_); first | exact Ends.flat hE (.inr rfl) rfl rfl (AVle.of_eq rfl) rfl | exact Ends.flat hE (.inl rfl) rfl rfl (AVle.of_eq rfl) rfl
theorem and7V : ∀ X : Fin 256, bitI .and .u8 ((X.val : Nat) : Int) 7 = some ((X.val % 8 : Nat) : Int) := by decide +kernel
theorem firstT_lt (b : Nat) : firstT b < 256 := by unfold firstT; (repeat' split) <;> omega
theorem acc_drop (i : Nat) (h : i < 16) : ∃ rest, ((List.range 32).map fun j => PV.int .u8 (if j % 2 = 0 then (accLo (j / 2) : Int) else (accHi (j / 2) : Int))).drop (2 * i) = .int .u8 (accLo i : Int) :: .int .u8 (accHi i : Int) :: rest := by
  have : ∀ i : Fin 16, ∃ rest, ((List.range 32).map fun j => PV.int .u8 (if j % 2 = 0 then (accLo (j / 2) : Int) else (accHi (j / 2) : Int))).drop (2 * i.val) = .int .u8 (accLo i.val : Int) :: .int .u8 (accHi i.val : Int) :: rest := by
    intro i
    refine ⟨((List.range 32).map fun j => PV.int .u8 (if j % 2 = 0 then (accLo (j / 2) : Int) else (accHi (j / 2) : Int))).drop (2 * i.val + 2), ?_⟩
    have hi := i.isLt
    rw [List.drop_eq_getElem_cons (by simp; omega), List.drop_eq_getElem_cons (by simp; omega)]
    simp only [List.getElem_map, List.getElem_range]
    rw [if_pos (by omega), if_neg (by omega), show 2 * i.val / 2 = i.val by omega, show (2 * i.val + 1) / 2 = i.val by omega]
  exact this ⟨i, h⟩
theorem mask_and {W : Nat} (h : W < 18446744073709551616) : bitI .and .u64 (W : Int) 9259542123273814144 = some ((W &&& 9259542123273814144 : Nat) : Int) := congrArg some (u64_and_nat W 9259542123273814144 h (by decide))
theorem mask_or {A B : Nat} (hA : A < 18446744073709551616) (hB : B < 18446744073709551616) : bitI .or .u64 (A : Int) (B : Int) = some ((A ||| B : Nat) : Int) := congrArg some (u64_or_nat A B hA hB)
theorem load_two {i : TI} {a b : PV} {rest : List PV} (hi : aggD i.desc = true) (hs : i.size = 2) : loadO i ((a :: b :: rest).map AV.pv) = some (.agg [.pv a, .pv b]) := by
  unfold loadO
  rw [hi, hs]
  rfl
theorem pvsO_map : ∀ cs : List PV, pvsO cs = some (cs.map AV.pv)
  | [] => rfl
  | c :: cs => by simp only [pvsO, pvsO_map cs, List.map_cons]
set_option maxHeartbeats 8000000 in
set_option maxRecDepth 100000 in
theorem fnValid {t0 : List UInt8} (h40 : t0.length ≤ 40) : FnC (En Tryd.prog gT) 44 [.pv (byv (tb t0))] (.pv (.bool (validD t0))) [] := by
  have hE := EnOk gT
  have hG1 : gT 2 = some ((List.range 256).map fun c => PV.int .u8 (firstT c : Int)) := by kernel_rfl
  have hG2 : gT 3 = some ((List.range 32).map fun j => PV.int .u8 (if j % 2 = 0 then (accLo (j / 2) : Int) else (accHi (j / 2) : Int))) := by kernel_rfl
  obtain ⟨ANS, hANS⟩ : ∃ ANS, validD t0 = ANS := ⟨_, rfl⟩
  rw [hANS]
  have hlen0 := tb_map_len t0
  have hys0 : ((tb t0).map (PV.int .u8)).take (((tb t0).length : Nat) : Int).toNat = (tb t0).map (PV.int .u8) := by rw [Int.toNat_natCast, List.take_of_length_le (by simp)]
  refine FnC.of Tryd.func44 rfl rfl rfl rfl ?_
  repeat (first | refine Run.seq ?_ | refine Run.skip ?_ | refine Run.block ?_)
  refine Run.region ?_
  refine O.assign rfl rfl ?_
  refine O.nil ?_
  try refine Run.keep [0, 2, 3, 4, 5, 6, 15, 20, 31, 46, 69, 82, 83, 103, 106, 138, 141, 185] rfl rfl ?_
  repeat (first | refine Run.seq ?_ | refine Run.skip ?_ | refine Run.block ?_)
  refine Run.region ?_
  refine O.move rfl rfl ?_
  refine O.move rfl rfl ?_
  first | refine O.lenN hE T27 rfl rfl rfl (by first | exact newest_pv | exact newest_gl rfl rfl | trivial) lenC rfl ?_ | refine O.lenLst hE T27 rfl rfl rfl (by first | exact newest_pv | exact newest_gl rfl rfl | trivial) rfl ?_
  refine O.move rfl rfl ?_
  first | refine O.lenN hE T27 rfl rfl rfl (by first | exact newest_pv | exact newest_gl rfl rfl | trivial) lenC rfl ?_ | refine O.lenLst hE T27 rfl rfl rfl (by first | exact newest_pv | exact newest_gl rfl rfl | trivial) rfl ?_
  refine O.slice3 hE T27 rfl T5 rfl rfl newest_pv rfl rfl rfl (by omega) (by show ((tb t0).length : Int) ≤ (((tb t0).map (PV.int .u8)).length : Int); simp) hys0 rfl ?_
  refine O.assign rfl rfl ?_
  refine O.nil ?_
  try refine Run.keep [0, 2, 3, 4, 5, 6, 15, 20, 31, 46, 69, 82, 83, 103, 106, 138, 141, 185] rfl rfl ?_
  repeat (first | refine Run.seq ?_ | refine Run.skip ?_)
  refine Run.block ?_
  refine Run.loopInv (ι := List UInt8) (fun t => validD t = ANS ∧ t.length ≤ 40) (fun t => ⟨188, [(0, .pv (byv (tb t)))], []⟩) (fun t => t.length) t0 ⟨hANS, h40⟩ ?_ ?_
  ·
    refine SLe.eqv (by repeat (first | exact TmIn.nil | refine TmIn.cons rfl ?_)) (by repeat (first | exact BxIn.nil | refine BxIn.cons rfl ?_)) rfl
  rintro t ⟨hv, hl⟩ ih
  have hm := tb_map_len t
  have hqt := tb_len t
  by_cases hne : t = []
  ·
    subst hne
    rw [validD_nil] at hv
    subst hv
    repeat (first | refine Run.seq ?_ | refine Run.skip ?_ | refine Run.block ?_)
    refine Run.region ?_
    refine O.move rfl rfl ?_
    first | refine O.lenN hE T27 rfl rfl rfl (by first | exact newest_pv | exact newest_gl rfl rfl | trivial) lenC rfl ?_ | refine O.lenLst hE T27 rfl rfl rfl (by first | exact newest_pv | exact newest_gl rfl rfl | trivial) rfl ?_
    first | refine O.cmp rfl rfl rfl (by first | exact decide_eq_true (by omega) | exact decide_eq_false (by omega)) rfl ?_ | refine O.cmp rfl rfl rfl rfl rfl ?_
    refine O.nil ?_
    try refine Run.keep [0, 2, 3, 4, 5, 6, 15, 20, 31, 46, 69, 82, 83, 103, 106, 138, 141, 185] rfl rfl ?_
    repeat (first | refine Run.seq ?_ | refine Run.skip ?_)
    first | refine Run.condT rfl rfl ?_ | refine Run.condF rfl rfl ?_ | refine Run.condT rfl (by assumption) ?_ | refine Run.condF rfl (by assumption) ?_
    refine Run.exit ?_
    repeat (first | refine thenR_exit ?_ | refine roundR_exit ?_ | refine blockR_exit ?_ | refine blockR_pass rfl ?_)
    repeat (first | refine Run.seq ?_ | refine Run.skip ?_ | refine Run.block ?_)
    refine Run.region ?_
    refine O.assign rfl rfl ?_
    refine O.nil ?_
    try refine Run.keep [0, 2, 3, 4, 5, 6, 15, 20, 31, 46, 69, 82, 83, 103, 106, 138, 141, 185] rfl rfl ?_
    (repeat (first | refine Run.seq ?_ | refine Run.skip ?_)); (try refine Run.ret ?_); first | exact Ends.flat hE (.inr rfl) rfl rfl (AVle.of_eq rfl) rfl | exact Ends.flat hE (.inl rfl) rfl rfl (AVle.of_eq rfl) rfl
  have hpos : 0 < t.length := List.length_pos_iff.2 hne
  obtain ⟨x0, hx0⟩ : ∃ x0, t[0]? = some x0 := ⟨_, List.getElem?_eq_getElem hpos⟩
  have hg0 : t.getD 0 0 = x0 := by rw [List.getD_eq_getElem?_getD, hx0]; rfl
  have hat0 : ((tb t).map (PV.int .u8))[(0 : Int).toNat]? = some (.int .u8 ((x0.toNat : Nat) : Int)) := tb_at hx0
  have hx0l : x0.toNat < 256 := x0.toNat_lt
  by_cases hasc : x0.toNat < 128
  ·
    have a1 : ∀ b ∈ t.take 1, b.toNat < 128 := by
      intro b hb
      rw [List.take_one, List.head?_eq_getElem?, hx0] at hb
      simp at hb; subst hb; exact hasc
    have v1 : validD (t.drop 1) = ANS := by rw [← validD_ascii 1 t a1]; exact hv
    have hy1 := tb_drop t 1
    have l1 : (t.drop 1).length = t.length - 1 := List.length_drop
    generalize t.drop 1 = t1 at *
    have hm1 := tb_map_len t1
    have hqt1 := tb_len t1
    repeat (first | refine Run.seq ?_ | refine Run.skip ?_ | refine Run.block ?_)
    refine Run.region ?_
    refine O.move rfl rfl ?_
    first | refine O.lenN hE T27 rfl rfl rfl (by first | exact newest_pv | exact newest_gl rfl rfl | trivial) lenC rfl ?_ | refine O.lenLst hE T27 rfl rfl rfl (by first | exact newest_pv | exact newest_gl rfl rfl | trivial) rfl ?_
    first | refine O.cmp rfl rfl rfl (by first | exact decide_eq_true (by omega) | exact decide_eq_false (by omega)) rfl ?_ | refine O.cmp rfl rfl rfl rfl rfl ?_
    refine O.nil ?_
    try refine Run.keep [0, 2, 3, 4, 5, 6, 15, 20, 31, 46, 69, 82, 83, 103, 106, 138, 141, 185] rfl rfl ?_
    repeat (first | refine Run.seq ?_ | refine Run.skip ?_)
    first | refine Run.condT rfl rfl ?_ | refine Run.condF rfl rfl ?_ | refine Run.condT rfl (by assumption) ?_ | refine Run.condF rfl (by assumption) ?_
    repeat (first | refine Run.seq ?_ | refine Run.skip ?_ | refine Run.block ?_)
    refine Run.region ?_
    refine O.move rfl rfl ?_
    refine O.index hE T27 rfl T5 rfl rfl newest_pv rfl (by omega) hat0 rfl rfl rfl ?_
    first | refine O.loadS hE T5 rfl rfl rfl (by rfl) rfl ?_ | refine O.loadE hE T5 rfl rfl (by rfl) rfl ?_ | refine O.load hE T5 rfl rfl rfl rfl ?_
    refine O.assign rfl rfl ?_
    refine O.nil ?_
    try refine Run.keep [0, 2, 3, 4, 5, 6, 15, 20, 31, 46, 69, 82, 83, 103, 106, 138, 141, 185] rfl rfl ?_
    repeat (first | refine Run.seq ?_ | refine Run.skip ?_ | refine Run.block ?_)
    refine Run.region ?_
    refine O.move rfl rfl ?_
    first | refine O.cmp rfl rfl rfl (by first | exact decide_eq_true (by omega) | exact decide_eq_false (by omega)) rfl ?_ | refine O.cmp rfl rfl rfl rfl rfl ?_
    refine O.nil ?_
    try refine Run.keep [0, 2, 3, 4, 5, 6, 15, 20, 31, 46, 69, 82, 83, 103, 106, 138, 141, 185] rfl rfl ?_
    repeat (first | refine Run.seq ?_ | refine Run.skip ?_)
    first | refine Run.condT rfl rfl ?_ | refine Run.condF rfl rfl ?_ | refine Run.condT rfl (by assumption) ?_ | refine Run.condF rfl (by assumption) ?_
    repeat (first | refine Run.seq ?_ | refine Run.skip ?_ | refine Run.block ?_)
    refine Run.region ?_
    refine O.move rfl rfl ?_
    refine O.slice hE T27 rfl T5 rfl rfl newest_pv rfl rfl rfl (by omega) (by rw [hm]; omega) (by omega) hy1 rfl ?_; try dsimp only
    refine O.assign rfl rfl ?_
    refine O.nil ?_
    try refine Run.keep [0, 2, 3, 4, 5, 6, 15, 20, 31, 46, 69, 82, 83, 103, 106, 138, 141, 185] rfl rfl ?_
    by_cases c8 : 8 < t1.length
    ·
      obtain ⟨W1, w1, k1, cw1⟩ := word_ex (g := gT) (t := t1) (by omega)
      have m1 := mask_and w1
      obtain ⟨Z1, hZ1⟩ : ∃ Z1, W1 &&& 9259542123273814144 = Z1 := ⟨_, rfl⟩
      rw [hZ1] at m1 k1
      by_cases z1 : Z1 = 0
      ·
        have a8 := k1.1 z1
        have v2 : validD (t1.drop 8) = ANS := by rw [← validD_ascii 8 t1 a8]; exact v1
        have hy2 := tb_drop t1 8
        have l2 : (t1.drop 8).length = t1.length - 8 := List.length_drop
        generalize t1.drop 8 = t2 at *
        have hm2 := tb_map_len t2
        have hqt2 := tb_len t2
        repeat (first | refine Run.seq ?_ | refine Run.skip ?_ | refine Run.block ?_)
        refine Run.region ?_
        refine O.move rfl rfl ?_
        first | refine O.lenN hE T27 rfl rfl rfl (by first | exact newest_pv | exact newest_gl rfl rfl | trivial) lenC rfl ?_ | refine O.lenLst hE T27 rfl rfl rfl (by first | exact newest_pv | exact newest_gl rfl rfl | trivial) rfl ?_
        first | refine O.cmp rfl rfl rfl (by first | exact decide_eq_true (by omega) | exact decide_eq_false (by omega)) rfl ?_ | refine O.cmp rfl rfl rfl rfl rfl ?_
        refine O.move rfl rfl ?_
        first | (refine O.yes rfl rfl (by first | rfl | assumption) ?_; refine O.move rfl rfl ?_) | refine O.no rfl rfl rfl rfl ?_
        first | (refine O.yes rfl rfl (by first | rfl | assumption) ?_; refine O.callE cw1 rfl (by first | rfl | simp [closed, men3, mens2_app, mens2_ints, mens2, men2, men1, mens1_app, mens1_ints, mens1]) (by first | rfl | simp [d2, ds1_ints, ds1_app, ds1, d1, ds0_app, ds0_ints, ds0, d0]) rfl ?_) | refine O.no rfl rfl rfl rfl ?_
        first | (refine O.yes rfl rfl (by first | rfl | assumption) ?_; refine O.bit rfl rfl m1 rfl ?_) | refine O.no rfl rfl rfl rfl ?_
        first | (refine O.yes rfl rfl (by first | rfl | assumption) ?_; first | refine O.cmp rfl rfl rfl (by first | exact decide_eq_true (by omega) | exact decide_eq_false (by omega)) rfl ?_ | refine O.cmp rfl rfl rfl rfl rfl ?_) | refine O.no rfl rfl rfl rfl ?_
        refine O.pick rfl rfl rfl rfl rfl ?_
        refine O.nil ?_
        try refine Run.keep [0, 2, 3, 4, 5, 6, 15, 20, 31, 46, 69, 82, 83, 103, 106, 138, 141, 185] rfl rfl ?_
        repeat (first | refine Run.seq ?_ | refine Run.skip ?_)
        first | refine Run.condT rfl rfl ?_ | refine Run.condF rfl rfl ?_ | refine Run.condT rfl (by assumption) ?_ | refine Run.condF rfl (by assumption) ?_
        repeat (first | refine Run.seq ?_ | refine Run.skip ?_ | refine Run.block ?_)
        refine Run.region ?_
        refine O.move rfl rfl ?_
        refine O.slice hE T27 rfl T5 rfl rfl newest_pv rfl rfl rfl (by omega) (by rw [hm1]; omega) (by omega) hy2 rfl ?_; try dsimp only
        refine O.assign rfl rfl ?_
        refine O.nil ?_
        try refine Run.keep [0, 2, 3, 4, 5, 6, 15, 20, 31, 46, 69, 82, 83, 103, 106, 138, 141, 185] rfl rfl ?_
        by_cases c16 : 16 < t2.length
        ·
          obtain ⟨W2, w2, k2, cw2⟩ := word_ex (g := gT) (t := t2) (by omega)
          have hy3 := tb_drop t2 8
          have l3 : (t2.drop 8).length = t2.length - 8 := List.length_drop
          obtain ⟨t2b, ht2b⟩ : ∃ t2b, t2.drop 8 = t2b := ⟨_, rfl⟩
          rw [ht2b] at hy3 l3
          obtain ⟨W3, w3, k3, cw3⟩ := word_ex (g := gT) (t := t2b) (by omega)
          have mo := mask_or w2 w3
          have wo : W2 ||| W3 < 18446744073709551616 := Nat.or_lt_two_pow (n := 64) w2 w3
          have m2 := mask_and wo
          have ko : (W2 ||| W3) &&& 9259542123273814144 = 0 → ∀ b ∈ t2.take 16, b.toNat < 128 := fun h0 => by
            obtain ⟨e1, e2⟩ := (or_mask W2 W3 _).1 h0
            intro b hb
            rw [show (16 : Nat) = 8 + 8 from rfl, List.take_add, ht2b] at hb
            rcases List.mem_append.1 hb with hb | hb
            · exact k2.1 e1 b hb
            · exact k3.1 e2 b hb
          obtain ⟨Z2, hZ2⟩ : ∃ Z2, (W2 ||| W3) &&& 9259542123273814144 = Z2 := ⟨_, rfl⟩
          rw [hZ2] at m2 ko
          generalize W2 ||| W3 = Wo at *
          by_cases z2 : Z2 = 0
          ·
            have a16 := ko z2
            have v3 : validD (t2.drop 16) = ANS := by rw [← validD_ascii 16 t2 a16]; exact v2
            have hy4 := tb_drop t2 16
            have l4 : (t2.drop 16).length = t2.length - 16 := List.length_drop
            generalize t2.drop 16 = t3 at *
            have hm3 := tb_map_len t3
            have hqt3 := tb_len t3
            repeat (first | refine Run.seq ?_ | refine Run.skip ?_ | refine Run.block ?_)
            refine Run.draw mixed rfl ?_
            refine D.move rfl rfl ?_
            refine D.lenLst hE T27 rfl rfl rfl newest_pv rfl ?_; dsimp only
            first | refine D.cmp rfl rfl rfl (by first | exact decide_eq_true (by omega) | exact decide_eq_false (by omega)) rfl ?_ | refine D.cmp rfl rfl rfl rfl rfl ?_
            refine D.move rfl rfl ?_
            first | (refine D.yes rfl rfl (by first | rfl | assumption) ?_; refine D.move rfl rfl ?_) | refine D.no rfl rfl rfl rfl ?_
            first | (refine D.yes rfl rfl (by first | rfl | assumption) ?_; refine D.callE cw2 rfl (by first | rfl | simp [closed, men3, mens2_app, mens2_ints, mens2, men2, men1, mens1_app, mens1_ints, mens1]) (by first | rfl | simp [d2, ds1_ints, ds1_app, ds1, d1, ds0_app, ds0_ints, ds0, d0]) rfl ?_) | refine D.no rfl rfl rfl rfl ?_
            first | (refine D.yes rfl rfl (by first | rfl | assumption) ?_; refine D.move rfl rfl ?_) | refine D.no rfl rfl rfl rfl ?_
            first | (refine D.yes rfl rfl (by first | rfl | assumption) ?_; refine D.sliceP hE T27 rfl T5 rfl rfl rfl rfl (by omega) (by rw [hm2]; omega) (by omega) hy3 rfl ?_) | refine D.no rfl rfl rfl rfl ?_
            first | (refine D.yes rfl rfl (by first | rfl | assumption) ?_; refine D.callE cw3 rfl (by first | rfl | simp [closed, men3, mens2_app, mens2_ints, mens2, men2, men1, mens1_app, mens1_ints, mens1]) (by first | rfl | simp [d2, ds1_ints, ds1_app, ds1, d1, ds0_app, ds0_ints, ds0, d0]) rfl ?_) | refine D.no rfl rfl rfl rfl ?_
            first | (refine D.yes rfl rfl (by first | rfl | assumption) ?_; refine D.bit rfl rfl mo rfl ?_) | refine D.no rfl rfl rfl rfl ?_
            first | (refine D.yes rfl rfl (by first | rfl | assumption) ?_; refine D.bit rfl rfl m2 rfl ?_) | refine D.no rfl rfl rfl rfl ?_
            first | (refine D.yes rfl rfl (by first | rfl | assumption) ?_; first | refine D.cmp rfl rfl rfl (by first | exact decide_eq_true (by omega) | exact decide_eq_false (by omega)) rfl ?_ | refine D.cmp rfl rfl rfl rfl rfl ?_) | refine D.no rfl rfl rfl rfl ?_
            refine D.pick rfl rfl rfl rfl rfl ?_
            refine Dr.nil ?_
            refine ⟨rfl, ?_⟩
            try refine Run.keep [0, 2, 3, 4, 5, 6, 15, 20, 31, 46, 69, 82, 83, 103, 106, 138, 141, 185] rfl rfl ?_
            repeat (first | refine Run.seq ?_ | refine Run.skip ?_)
            first | refine Run.condT rfl rfl ?_ | refine Run.condF rfl rfl ?_ | refine Run.condT rfl (by assumption) ?_ | refine Run.condF rfl (by assumption) ?_
            repeat (first | refine Run.seq ?_ | refine Run.skip ?_ | refine Run.block ?_)
            refine Run.region ?_
            refine O.move rfl rfl ?_
            refine O.slice hE T27 rfl T5 rfl rfl newest_pv rfl rfl rfl (by omega) (by rw [hm2]; omega) (by omega) hy4 rfl ?_; try dsimp only
            refine O.assign rfl rfl ?_
            refine O.nil ?_
            try refine Run.keep [0, 2, 3, 4, 5, 6, 15, 20, 31, 46, 69, 82, 83, 103, 106, 138, 141, 185] rfl rfl ?_
            repeat (first | refine Run.seq ?_ | refine Run.skip ?_)
            refine Run.block ?_
            refine Run.loopInv (ι := Nat) (fun _ => True) (fun _ => ⟨188, [(0, .pv (byv (tb t3)))], []⟩) (fun i => 0 - i) 0 trivial ?_ ?_
            ·
              exact SLe.drop (by repeat (first | exact TmIn.nil | refine TmIn.cons rfl ?_)) (by repeat (first | exact BxIn.nil | refine BxIn.cons rfl ?_)) rfl rfl
            rintro _ _ _
            repeat (first | refine Run.seq ?_ | refine Run.skip ?_ | refine Run.block ?_)
            refine Run.draw mixed rfl ?_
            refine D.move rfl rfl ?_
            refine D.lenLst hE T27 rfl rfl rfl newest_pv rfl ?_; dsimp only
            first | refine D.cmp rfl rfl rfl (by first | exact decide_eq_true (by omega) | exact decide_eq_false (by omega)) rfl ?_ | refine D.cmp rfl rfl rfl rfl rfl ?_
            refine D.move rfl rfl ?_
            first | (refine D.yes rfl rfl (by first | rfl | assumption) ?_; refine D.move rfl rfl ?_) | refine D.no rfl rfl rfl rfl ?_
            first | (refine D.yes rfl rfl (by first | rfl | assumption) ?_; refine D.callE cwX rfl (by first | rfl | simp [closed, men3, mens2_app, mens2_ints, mens2, men2, men1, mens1_app, mens1_ints, mens1]) (by first | rfl | simp [d2, ds1_ints, ds1_app, ds1, d1, ds0_app, ds0_ints, ds0, d0]) rfl ?_) | refine D.no rfl rfl rfl rfl ?_
            first | (refine D.yes rfl rfl (by first | rfl | assumption) ?_; refine D.move rfl rfl ?_) | refine D.no rfl rfl rfl rfl ?_
            first | (refine D.yes rfl rfl (by first | rfl | assumption) ?_; exact slX) | refine D.no rfl rfl rfl rfl ?_
            first | (refine D.yes rfl rfl (by first | rfl | assumption) ?_; refine D.callE cwX rfl (by first | rfl | simp [closed, men3, mens2_app, mens2_ints, mens2, men2, men1, mens1_app, mens1_ints, mens1]) (by first | rfl | simp [d2, ds1_ints, ds1_app, ds1, d1, ds0_app, ds0_ints, ds0, d0]) rfl ?_) | refine D.no rfl rfl rfl rfl ?_
            first | (refine D.yes rfl rfl (by first | rfl | assumption) ?_; refine D.bit rfl rfl rfl rfl ?_) | refine D.no rfl rfl rfl rfl ?_
            first | (refine D.yes rfl rfl (by first | rfl | assumption) ?_; refine D.move rfl rfl ?_) | refine D.no rfl rfl rfl rfl ?_
            first | (refine D.yes rfl rfl (by first | rfl | assumption) ?_; exact slX) | refine D.no rfl rfl rfl rfl ?_
            first | (refine D.yes rfl rfl (by first | rfl | assumption) ?_; refine D.callE cwX rfl (by first | rfl | simp [closed, men3, mens2_app, mens2_ints, mens2, men2, men1, mens1_app, mens1_ints, mens1]) (by first | rfl | simp [d2, ds1_ints, ds1_app, ds1, d1, ds0_app, ds0_ints, ds0, d0]) rfl ?_) | refine D.no rfl rfl rfl rfl ?_
            first | (refine D.yes rfl rfl (by first | rfl | assumption) ?_; refine D.move rfl rfl ?_) | refine D.no rfl rfl rfl rfl ?_
            first | (refine D.yes rfl rfl (by first | rfl | assumption) ?_; exact slX) | refine D.no rfl rfl rfl rfl ?_
            first | (refine D.yes rfl rfl (by first | rfl | assumption) ?_; refine D.callE cwX rfl (by first | rfl | simp [closed, men3, mens2_app, mens2_ints, mens2, men2, men1, mens1_app, mens1_ints, mens1]) (by first | rfl | simp [d2, ds1_ints, ds1_app, ds1, d1, ds0_app, ds0_ints, ds0, d0]) rfl ?_) | refine D.no rfl rfl rfl rfl ?_
            first | (refine D.yes rfl rfl (by first | rfl | assumption) ?_; refine D.bit rfl rfl rfl rfl ?_) | refine D.no rfl rfl rfl rfl ?_
            first | (refine D.yes rfl rfl (by first | rfl | assumption) ?_; refine D.bit rfl rfl rfl rfl ?_) | refine D.no rfl rfl rfl rfl ?_
            first | (refine D.yes rfl rfl (by first | rfl | assumption) ?_; refine D.bit rfl rfl rfl rfl ?_) | refine D.no rfl rfl rfl rfl ?_
            first | (refine D.yes rfl rfl (by first | rfl | assumption) ?_; first | refine D.cmp rfl rfl rfl (by first | exact decide_eq_true (by omega) | exact decide_eq_false (by omega)) rfl ?_ | refine D.cmp rfl rfl rfl rfl rfl ?_) | refine D.no rfl rfl rfl rfl ?_
            refine D.pick rfl rfl rfl rfl rfl ?_
            refine Dr.nil ?_
            refine ⟨rfl, ?_⟩
            try refine Run.keep [0, 2, 3, 4, 5, 6, 15, 20, 31, 46, 69, 82, 83, 103, 106, 138, 141, 185] rfl rfl ?_
            repeat (first | refine Run.seq ?_ | refine Run.skip ?_)
            first | refine Run.condT rfl rfl ?_ | refine Run.condF rfl rfl ?_ | refine Run.condT rfl (by assumption) ?_ | refine Run.condF rfl (by assumption) ?_
            refine Run.exit ?_
            repeat (first | refine thenR_exit ?_ | refine roundR_exit ?_ | refine blockR_exit ?_ | refine blockR_pass rfl ?_)
            repeat (first | refine Run.seq ?_ | refine Run.skip ?_)
            refine Run.exit ?_
            repeat (first | refine thenR_exit ?_ | refine roundR_exit ?_ | refine blockR_exit ?_ | refine blockR_pass rfl ?_)
            exact ih t3 _ (by refine SLe.eqv (by repeat (first | exact TmIn.nil | refine TmIn.cons rfl ?_)) (by repeat (first | exact BxIn.nil | refine BxIn.cons rfl ?_)) rfl) ⟨v3, by omega⟩ (by omega)
          ·
            repeat (first | refine Run.seq ?_ | refine Run.skip ?_ | refine Run.block ?_)
            refine Run.draw mixed rfl ?_
            refine D.move rfl rfl ?_
            refine D.lenLst hE T27 rfl rfl rfl newest_pv rfl ?_; dsimp only
            first | refine D.cmp rfl rfl rfl (by first | exact decide_eq_true (by omega) | exact decide_eq_false (by omega)) rfl ?_ | refine D.cmp rfl rfl rfl rfl rfl ?_
            refine D.move rfl rfl ?_
            first | (refine D.yes rfl rfl (by first | rfl | assumption) ?_; refine D.move rfl rfl ?_) | refine D.no rfl rfl rfl rfl ?_
            first | (refine D.yes rfl rfl (by first | rfl | assumption) ?_; refine D.callE cw2 rfl (by first | rfl | simp [closed, men3, mens2_app, mens2_ints, mens2, men2, men1, mens1_app, mens1_ints, mens1]) (by first | rfl | simp [d2, ds1_ints, ds1_app, ds1, d1, ds0_app, ds0_ints, ds0, d0]) rfl ?_) | refine D.no rfl rfl rfl rfl ?_
            first | (refine D.yes rfl rfl (by first | rfl | assumption) ?_; refine D.move rfl rfl ?_) | refine D.no rfl rfl rfl rfl ?_
            first | (refine D.yes rfl rfl (by first | rfl | assumption) ?_; refine D.sliceP hE T27 rfl T5 rfl rfl rfl rfl (by omega) (by rw [hm2]; omega) (by omega) hy3 rfl ?_) | refine D.no rfl rfl rfl rfl ?_
            first | (refine D.yes rfl rfl (by first | rfl | assumption) ?_; refine D.callE cw3 rfl (by first | rfl | simp [closed, men3, mens2_app, mens2_ints, mens2, men2, men1, mens1_app, mens1_ints, mens1]) (by first | rfl | simp [d2, ds1_ints, ds1_app, ds1, d1, ds0_app, ds0_ints, ds0, d0]) rfl ?_) | refine D.no rfl rfl rfl rfl ?_
            first | (refine D.yes rfl rfl (by first | rfl | assumption) ?_; refine D.bit rfl rfl mo rfl ?_) | refine D.no rfl rfl rfl rfl ?_
            first | (refine D.yes rfl rfl (by first | rfl | assumption) ?_; refine D.bit rfl rfl m2 rfl ?_) | refine D.no rfl rfl rfl rfl ?_
            first | (refine D.yes rfl rfl (by first | rfl | assumption) ?_; first | refine D.cmp rfl rfl rfl (by first | exact decide_eq_true (by omega) | exact decide_eq_false (by omega)) rfl ?_ | refine D.cmp rfl rfl rfl rfl rfl ?_) | refine D.no rfl rfl rfl rfl ?_
            refine D.pick rfl rfl rfl rfl rfl ?_
            refine Dr.nil ?_
            refine ⟨rfl, ?_⟩
            try refine Run.keep [0, 2, 3, 4, 5, 6, 15, 20, 31, 46, 69, 82, 83, 103, 106, 138, 141, 185] rfl rfl ?_
            repeat (first | refine Run.seq ?_ | refine Run.skip ?_)
            first | refine Run.condT rfl rfl ?_ | refine Run.condF rfl rfl ?_ | refine Run.condT rfl (by assumption) ?_ | refine Run.condF rfl (by assumption) ?_
            repeat (first | refine Run.seq ?_ | refine Run.skip ?_)
            refine Run.exit ?_
            repeat (first | refine thenR_exit ?_ | refine roundR_exit ?_ | refine blockR_exit ?_ | refine blockR_pass rfl ?_)
            exact ih t2 _ (by refine SLe.eqv (by repeat (first | exact TmIn.nil | refine TmIn.cons rfl ?_)) (by repeat (first | exact BxIn.nil | refine BxIn.cons rfl ?_)) rfl) ⟨v2, by omega⟩ (by omega)
        ·
          repeat (first | refine Run.seq ?_ | refine Run.skip ?_ | refine Run.block ?_)
          refine Run.draw mixed rfl ?_
          refine D.move rfl rfl ?_
          refine D.lenLst hE T27 rfl rfl rfl newest_pv rfl ?_; dsimp only
          first | refine D.cmp rfl rfl rfl (by first | exact decide_eq_true (by omega) | exact decide_eq_false (by omega)) rfl ?_ | refine D.cmp rfl rfl rfl rfl rfl ?_
          refine D.move rfl rfl ?_
          first | (refine D.yes rfl rfl (by first | rfl | assumption) ?_; refine D.move rfl rfl ?_) | refine D.no rfl rfl rfl rfl ?_
          first | (refine D.yes rfl rfl (by first | rfl | assumption) ?_; refine D.callE cwX rfl (by first | rfl | simp [closed, men3, mens2_app, mens2_ints, mens2, men2, men1, mens1_app, mens1_ints, mens1]) (by first | rfl | simp [d2, ds1_ints, ds1_app, ds1, d1, ds0_app, ds0_ints, ds0, d0]) rfl ?_) | refine D.no rfl rfl rfl rfl ?_
          first | (refine D.yes rfl rfl (by first | rfl | assumption) ?_; refine D.move rfl rfl ?_) | refine D.no rfl rfl rfl rfl ?_
          first | (refine D.yes rfl rfl (by first | rfl | assumption) ?_; refine D.sliceP hE T27 rfl T5 rfl rfl rfl rfl (by omega) (by rw [hm2]; omega) (by omega) hy3X rfl ?_) | refine D.no rfl rfl rfl rfl ?_
          first | (refine D.yes rfl rfl (by first | rfl | assumption) ?_; refine D.callE cwX rfl (by first | rfl | simp [closed, men3, mens2_app, mens2_ints, mens2, men2, men1, mens1_app, mens1_ints, mens1]) (by first | rfl | simp [d2, ds1_ints, ds1_app, ds1, d1, ds0_app, ds0_ints, ds0, d0]) rfl ?_) | refine D.no rfl rfl rfl rfl ?_
          first | (refine D.yes rfl rfl (by first | rfl | assumption) ?_; refine D.bit rfl rfl rfl rfl ?_) | refine D.no rfl rfl rfl rfl ?_
          first | (refine D.yes rfl rfl (by first | rfl | assumption) ?_; refine D.bit rfl rfl rfl rfl ?_) | refine D.no rfl rfl rfl rfl ?_
          first | (refine D.yes rfl rfl (by first | rfl | assumption) ?_; first | refine D.cmp rfl rfl rfl (by first | exact decide_eq_true (by omega) | exact decide_eq_false (by omega)) rfl ?_ | refine D.cmp rfl rfl rfl rfl rfl ?_) | refine D.no rfl rfl rfl rfl ?_
          refine D.pick rfl rfl rfl rfl rfl ?_
          refine Dr.nil ?_
          refine ⟨rfl, ?_⟩
          try refine Run.keep [0, 2, 3, 4, 5, 6, 15, 20, 31, 46, 69, 82, 83, 103, 106, 138, 141, 185] rfl rfl ?_
          repeat (first | refine Run.seq ?_ | refine Run.skip ?_)
          first | refine Run.condT rfl rfl ?_ | refine Run.condF rfl rfl ?_ | refine Run.condT rfl (by assumption) ?_ | refine Run.condF rfl (by assumption) ?_
          repeat (first | refine Run.seq ?_ | refine Run.skip ?_)
          refine Run.exit ?_
          repeat (first | refine thenR_exit ?_ | refine roundR_exit ?_ | refine blockR_exit ?_ | refine blockR_pass rfl ?_)
          exact ih t2 _ (by refine SLe.eqv (by repeat (first | exact TmIn.nil | refine TmIn.cons rfl ?_)) (by repeat (first | exact BxIn.nil | refine BxIn.cons rfl ?_)) rfl) ⟨v2, by omega⟩ (by omega)
      ·
        repeat (first | refine Run.seq ?_ | refine Run.skip ?_ | refine Run.block ?_)
        refine Run.region ?_
        refine O.move rfl rfl ?_
        first | refine O.lenN hE T27 rfl rfl rfl (by first | exact newest_pv | exact newest_gl rfl rfl | trivial) lenC rfl ?_ | refine O.lenLst hE T27 rfl rfl rfl (by first | exact newest_pv | exact newest_gl rfl rfl | trivial) rfl ?_
        first | refine O.cmp rfl rfl rfl (by first | exact decide_eq_true (by omega) | exact decide_eq_false (by omega)) rfl ?_ | refine O.cmp rfl rfl rfl rfl rfl ?_
        refine O.move rfl rfl ?_
        first | (refine O.yes rfl rfl (by first | rfl | assumption) ?_; refine O.move rfl rfl ?_) | refine O.no rfl rfl rfl rfl ?_
        first | (refine O.yes rfl rfl (by first | rfl | assumption) ?_; refine O.callE cw1 rfl (by first | rfl | simp [closed, men3, mens2_app, mens2_ints, mens2, men2, men1, mens1_app, mens1_ints, mens1]) (by first | rfl | simp [d2, ds1_ints, ds1_app, ds1, d1, ds0_app, ds0_ints, ds0, d0]) rfl ?_) | refine O.no rfl rfl rfl rfl ?_
        first | (refine O.yes rfl rfl (by first | rfl | assumption) ?_; refine O.bit rfl rfl m1 rfl ?_) | refine O.no rfl rfl rfl rfl ?_
        first | (refine O.yes rfl rfl (by first | rfl | assumption) ?_; first | refine O.cmp rfl rfl rfl (by first | exact decide_eq_true (by omega) | exact decide_eq_false (by omega)) rfl ?_ | refine O.cmp rfl rfl rfl rfl rfl ?_) | refine O.no rfl rfl rfl rfl ?_
        refine O.pick rfl rfl rfl rfl rfl ?_
        refine O.nil ?_
        try refine Run.keep [0, 2, 3, 4, 5, 6, 15, 20, 31, 46, 69, 82, 83, 103, 106, 138, 141, 185] rfl rfl ?_
        repeat (first | refine Run.seq ?_ | refine Run.skip ?_)
        first | refine Run.condT rfl rfl ?_ | refine Run.condF rfl rfl ?_ | refine Run.condT rfl (by assumption) ?_ | refine Run.condF rfl (by assumption) ?_
        repeat (first | refine Run.seq ?_ | refine Run.skip ?_)
        refine Run.exit ?_
        repeat (first | refine thenR_exit ?_ | refine roundR_exit ?_ | refine blockR_exit ?_ | refine blockR_pass rfl ?_)
        exact ih t1 _ (by refine SLe.eqv (by repeat (first | exact TmIn.nil | refine TmIn.cons rfl ?_)) (by repeat (first | exact BxIn.nil | refine BxIn.cons rfl ?_)) rfl) ⟨v1, by omega⟩ (by omega)
    ·
      repeat (first | refine Run.seq ?_ | refine Run.skip ?_ | refine Run.block ?_)
      refine Run.region ?_
      refine O.move rfl rfl ?_
      first | refine O.lenN hE T27 rfl rfl rfl (by first | exact newest_pv | exact newest_gl rfl rfl | trivial) lenC rfl ?_ | refine O.lenLst hE T27 rfl rfl rfl (by first | exact newest_pv | exact newest_gl rfl rfl | trivial) rfl ?_
      first | refine O.cmp rfl rfl rfl (by first | exact decide_eq_true (by omega) | exact decide_eq_false (by omega)) rfl ?_ | refine O.cmp rfl rfl rfl rfl rfl ?_
      refine O.move rfl rfl ?_
      first | (refine O.yes rfl rfl (by first | rfl | assumption) ?_; refine O.move rfl rfl ?_) | refine O.no rfl rfl rfl rfl ?_
      first | (refine O.yes rfl rfl (by first | rfl | assumption) ?_; refine O.callE cwX rfl (by first | rfl | simp [closed, men3, mens2_app, mens2_ints, mens2, men2, men1, mens1_app, mens1_ints, mens1]) (by first | rfl | simp [d2, ds1_ints, ds1_app, ds1, d1, ds0_app, ds0_ints, ds0, d0]) rfl ?_) | refine O.no rfl rfl rfl rfl ?_
      first | (refine O.yes rfl rfl (by first | rfl | assumption) ?_; refine O.bit rfl rfl rfl rfl ?_) | refine O.no rfl rfl rfl rfl ?_
      first | (refine O.yes rfl rfl (by first | rfl | assumption) ?_; first | refine O.cmp rfl rfl rfl (by first | exact decide_eq_true (by omega) | exact decide_eq_false (by omega)) rfl ?_ | refine O.cmp rfl rfl rfl rfl rfl ?_) | refine O.no rfl rfl rfl rfl ?_
      refine O.pick rfl rfl rfl rfl rfl ?_
      refine O.nil ?_
      try refine Run.keep [0, 2, 3, 4, 5, 6, 15, 20, 31, 46, 69, 82, 83, 103, 106, 138, 141, 185] rfl rfl ?_
      repeat (first | refine Run.seq ?_ | refine Run.skip ?_)
      first | refine Run.condT rfl rfl ?_ | refine Run.condF rfl rfl ?_ | refine Run.condT rfl (by assumption) ?_ | refine Run.condF rfl (by assumption) ?_
      repeat (first | refine Run.seq ?_ | refine Run.skip ?_)
      refine Run.exit ?_
      repeat (first | refine thenR_exit ?_ | refine roundR_exit ?_ | refine blockR_exit ?_ | refine blockR_pass rfl ?_)
      exact ih t1 _ (by refine SLe.eqv (by repeat (first | exact TmIn.nil | refine TmIn.cons rfl ?_)) (by repeat (first | exact BxIn.nil | refine BxIn.cons rfl ?_)) rfl) ⟨v1, by omega⟩ (by omega)
  have hlead := validD_lead t hne (by rw [hg0]; omega)
  rw [hv, hg0] at hlead
  have hXl := firstT_lt x0.toNat
  have hX16 : firstT x0.toNat / 16 < 16 := by omega
  have hf0 : ((List.range 256).map fun c => PV.int .u8 (firstT c : Int)).drop ((x0.toNat : Nat) : Int).toNat = ((List.range 256).map fun c => PV.int .u8 (firstT c : Int)).drop x0.toNat := by rw [Int.toNat_natCast]
  have hf1 : (((List.range 256).map fun c => PV.int .u8 (firstT c : Int)).drop ((x0.toNat : Nat) : Int).toNat)[0]? = some (.int .u8 (firstT x0.toNat : Int)) := by rw [hf0, List.getElem?_drop, List.getElem?_map, List.getElem?_range (by omega)]; rfl
  obtain ⟨rest, hrest⟩ := acc_drop (firstT x0.toNat / 16) hX16
  have h7 := and7V ⟨firstT x0.toNat, hXl⟩
  dsimp only at h7
  obtain ⟨X, hX⟩ : ∃ X, firstT x0.toNat = X := ⟨_, rfl⟩
  rw [hX] at hlead hXl hX16 hf1 hrest h7
  have hsh : (X : Int).fdiv (2 ^ (min (Int.toNat 4) IntKind.u8.bits)) = ((X / 16 : Nat) : Int) := by rw [Int.fdiv_eq_ediv_of_nonneg _ (by decide)]; show (X : Int) / 16 = _; omega
  obtain ⟨LO, hLO⟩ : ∃ LO, accLo (X / 16) = LO := ⟨_, rfl⟩
  obtain ⟨HI, hHI⟩ : ∃ HI, accHi (X / 16) = HI := ⟨_, rfl⟩
  rw [hLO, hHI] at hlead hrest
  have hoff : (AV.eptr ((List.range 32).map fun j => PV.int .u8 (if j % 2 = 0 then (accLo (j / 2) : Int) else (accHi (j / 2) : Int)))).off (2 * (X / 16)) = some (.eptr (.int .u8 (LO : Int) :: .int .u8 (HI : Int) :: rest)) := by
    rw [← hrest]; rfl
  have hmul : ((X / 16 : Nat) : Int).toNat * 2 = 2 * (X / 16) := by rw [Int.toNat_natCast]; omega
  obtain ⟨SZ, hSZ⟩ : ∃ SZ, X % 8 = SZ := ⟨_, rfl⟩
  have hSZ8 : SZ < 8 := by omega
  rw [hSZ] at hlead h7
  have hcv : IntKind.i64.wrap ((SZ : Nat) : Int) = ((SZ : Nat) : Int) := wrap_i64 (by omega) (by omega)
  repeat (first | refine Run.seq ?_ | refine Run.skip ?_ | refine Run.block ?_)
  refine Run.region ?_
  refine O.move rfl rfl ?_
  first | refine O.lenN hE T27 rfl rfl rfl (by first | exact newest_pv | exact newest_gl rfl rfl | trivial) lenC rfl ?_ | refine O.lenLst hE T27 rfl rfl rfl (by first | exact newest_pv | exact newest_gl rfl rfl | trivial) rfl ?_
  first | refine O.cmp rfl rfl rfl (by first | exact decide_eq_true (by omega) | exact decide_eq_false (by omega)) rfl ?_ | refine O.cmp rfl rfl rfl rfl rfl ?_
  refine O.nil ?_
  try refine Run.keep [0, 2, 3, 4, 5, 6, 15, 20, 31, 46, 69, 82, 83, 103, 106, 138, 141, 185] rfl rfl ?_
  repeat (first | refine Run.seq ?_ | refine Run.skip ?_)
  first | refine Run.condT rfl rfl ?_ | refine Run.condF rfl rfl ?_ | refine Run.condT rfl (by assumption) ?_ | refine Run.condF rfl (by assumption) ?_
  repeat (first | refine Run.seq ?_ | refine Run.skip ?_ | refine Run.block ?_)
  refine Run.region ?_
  refine O.move rfl rfl ?_
  refine O.index hE T27 rfl T5 rfl rfl newest_pv rfl (by omega) hat0 rfl rfl rfl ?_
  first | refine O.loadS hE T5 rfl rfl rfl (by rfl) rfl ?_ | refine O.loadE hE T5 rfl rfl (by rfl) rfl ?_ | refine O.load hE T5 rfl rfl rfl rfl ?_
  refine O.assign rfl rfl ?_
  refine O.nil ?_
  try refine Run.keep [0, 2, 3, 4, 5, 6, 15, 20, 31, 46, 69, 82, 83, 103, 106, 138, 141, 185] rfl rfl ?_
  repeat (first | refine Run.seq ?_ | refine Run.skip ?_ | refine Run.block ?_)
  refine Run.region ?_
  refine O.move rfl rfl ?_
  first | refine O.cmp rfl rfl rfl (by first | exact decide_eq_true (by omega) | exact decide_eq_false (by omega)) rfl ?_ | refine O.cmp rfl rfl rfl rfl rfl ?_
  refine O.nil ?_
  try refine Run.keep [0, 2, 3, 4, 5, 6, 15, 20, 31, 46, 69, 82, 83, 103, 106, 138, 141, 185] rfl rfl ?_
  repeat (first | refine Run.seq ?_ | refine Run.skip ?_)
  first | refine Run.condT rfl rfl ?_ | refine Run.condF rfl rfl ?_ | refine Run.condT rfl (by assumption) ?_ | refine Run.condF rfl (by assumption) ?_
  repeat (first | refine Run.seq ?_ | refine Run.skip ?_ | refine Run.block ?_)
  refine Run.region ?_
  refine O.move rfl rfl ?_
  refine O.ixE hE T93 rfl T5 rfl (glo_ev hG1) rfl (by omega) (by omega) rfl ?_
  refine O.loadE hE T5 rfl rfl hf1 rfl ?_
  refine O.assign rfl rfl ?_
  refine O.nil ?_
  try refine Run.keep [0, 2, 3, 4, 5, 6, 15, 20, 31, 46, 69, 82, 83, 103, 106, 138, 141, 185] rfl rfl ?_
  repeat (first | refine Run.seq ?_ | refine Run.skip ?_ | refine Run.block ?_)
  refine Run.region ?_
  refine O.move rfl rfl ?_
  refine O.bit rfl rfl h7 rfl ?_
  refine O.conv hE T5 T3 rfl rfl rfl ?_; rw [hcv]
  refine O.assign rfl rfl ?_
  refine O.nil ?_
  try refine Run.keep [0, 2, 3, 4, 5, 6, 15, 20, 31, 46, 69, 82, 83, 103, 106, 138, 141, 185] rfl rfl ?_
  repeat (first | refine Run.seq ?_ | refine Run.skip ?_ | refine Run.block ?_)
  refine Run.region ?_
  refine O.move rfl rfl ?_
  refine O.shr rfl rfl (by omega) rfl ?_; rw [hsh]
  refine O.indexA hE T96 rfl T95 (glo_ev hG2) rfl (by omega) (by omega) hmul hoff rfl ?_
  refine O.load (cs := (PV.int .u8 (LO : Int) :: PV.int .u8 (HI : Int) :: rest).map AV.pv) hE T95 rfl (pvsO_map _) (load_two rfl rfl) rfl ?_
  refine O.alloc hE 6 T95 rfl rfl rfl ?_
  refine O.store hE T95 rfl rfl rfl rfl rfl rfl ?_
  refine O.nil ?_
  try refine Run.keep [0, 2, 3, 4, 5, 6, 15, 20, 31, 46, 69, 82, 83, 103, 106, 138, 141, 185] rfl rfl ?_
  repeat (first | refine Run.seq ?_ | refine Run.skip ?_ | refine Run.block ?_)
  refine Run.region ?_
  refine O.move rfl rfl ?_
  refine O.nil ?_
  try refine Run.keep [0, 2, 3, 4, 5, 6, 15, 20, 31, 46, 69, 82, 83, 103, 106, 138, 141, 185] rfl rfl ?_
  have hl4 : LO < 256 ∧ HI < 256 := by
    rw [← hLO, ← hHI]; unfold accLo accHi; constructor <;> (repeat' split) <;> omega
  unfold checkN at hlead
  by_cases s2 : SZ = 2
  ·
    subst s2
    rw [if_pos rfl] at hlead
    repeat (first | refine Run.seq ?_ | refine Run.skip ?_ | refine Run.block ?_)
    refine Run.region ?_
    first | refine O.cmp rfl rfl rfl (by first | exact decide_eq_true (by omega) | exact decide_eq_false (by omega)) rfl ?_ | refine O.cmp rfl rfl rfl rfl rfl ?_
    refine O.assign rfl rfl ?_
    refine O.nil ?_
    try refine Run.keep [0, 2, 3, 4, 5, 6, 15, 20, 31, 46, 69, 82, 83, 103, 106, 138, 141, 185] rfl rfl ?_
    repeat (first | refine Run.seq ?_ | refine Run.skip ?_)
    first | refine Run.condT rfl rfl ?_ | refine Run.condF rfl rfl ?_ | refine Run.condT rfl (by assumption) ?_ | refine Run.condF rfl (by assumption) ?_
    by_cases n0 : t.length < 2
    ·
      repeat (first | refine Run.seq ?_ | refine Run.skip ?_ | refine Run.block ?_)
      refine Run.draw mixed rfl ?_
      refine D.move rfl rfl ?_
      refine D.lenLst hE T27 rfl rfl rfl newest_pv rfl ?_; dsimp only
      first | refine D.cmp rfl rfl rfl (by first | exact decide_eq_true (by omega) | exact decide_eq_false (by omega)) rfl ?_ | refine D.cmp rfl rfl rfl rfl rfl ?_
      refine D.move rfl rfl ?_
      first | (refine D.yes rfl rfl (by first | rfl | assumption) ?_; refine D.move rfl rfl ?_) | refine D.no rfl rfl rfl rfl ?_
      first | (refine D.yes rfl rfl (by first | rfl | assumption) ?_; refine D.index hE T27 rfl T5 rfl rfl (by first | exact newest_pv | exact newest_gl rfl rfl | trivial) rfl (by omega) (by first | assumption | rfl) rfl rfl rfl ?_) | refine D.no rfl rfl rfl rfl ?_
      first | (refine D.yes rfl rfl (by first | rfl | assumption) ?_; first | refine D.loadS hE T5 rfl rfl rfl (by rfl) rfl ?_ | refine D.loadE hE T5 rfl rfl (by rfl) rfl ?_ | refine D.load hE T5 rfl rfl rfl rfl ?_) | refine D.no rfl rfl rfl rfl ?_
      first | (refine D.yes rfl rfl (by first | rfl | assumption) ?_; refine D.field hE L95 rfl rfl rfl rfl ?_) | refine D.no rfl rfl rfl rfl ?_
      first | (refine D.yes rfl rfl (by first | rfl | assumption) ?_; first | refine D.loadS hE T5 rfl rfl rfl (by rfl) rfl ?_ | refine D.loadE hE T5 rfl rfl (by rfl) rfl ?_ | refine D.load hE T5 rfl rfl rfl rfl ?_) | refine D.no rfl rfl rfl rfl ?_
      first | (refine D.yes rfl rfl (by first | rfl | assumption) ?_; first | refine D.cmp rfl rfl rfl (by first | exact decide_eq_true (by omega) | exact decide_eq_false (by omega)) rfl ?_ | refine D.cmp rfl rfl rfl rfl rfl ?_) | refine D.no rfl rfl rfl rfl ?_
      refine D.pick rfl rfl rfl rfl rfl ?_
      refine D.move rfl rfl ?_
      first | (refine D.yes rfl rfl (by first | rfl | assumption) ?_; refine D.field hE L95 rfl rfl rfl rfl ?_) | refine D.no rfl rfl rfl rfl ?_
      first | (refine D.yes rfl rfl (by first | rfl | assumption) ?_; first | refine D.loadS hE T5 rfl rfl rfl (by rfl) rfl ?_ | refine D.loadE hE T5 rfl rfl (by rfl) rfl ?_ | refine D.load hE T5 rfl rfl rfl rfl ?_) | refine D.no rfl rfl rfl rfl ?_
      first | (refine D.yes rfl rfl (by first | rfl | assumption) ?_; refine D.move rfl rfl ?_) | refine D.no rfl rfl rfl rfl ?_
      first | (refine D.yes rfl rfl (by first | rfl | assumption) ?_; refine D.index hE T27 rfl T5 rfl rfl (by first | exact newest_pv | exact newest_gl rfl rfl | trivial) rfl (by omega) (by first | assumption | rfl) rfl rfl rfl ?_) | refine D.no rfl rfl rfl rfl ?_
      first | (refine D.yes rfl rfl (by first | rfl | assumption) ?_; first | refine D.loadS hE T5 rfl rfl rfl (by rfl) rfl ?_ | refine D.loadE hE T5 rfl rfl (by rfl) rfl ?_ | refine D.load hE T5 rfl rfl rfl rfl ?_) | refine D.no rfl rfl rfl rfl ?_
      first | (refine D.yes rfl rfl (by first | rfl | assumption) ?_; first | refine D.cmp rfl rfl rfl (by first | exact decide_eq_true (by omega) | exact decide_eq_false (by omega)) rfl ?_ | refine D.cmp rfl rfl rfl rfl rfl ?_) | refine D.no rfl rfl rfl rfl ?_
      refine D.pick rfl rfl rfl rfl rfl ?_
      refine Dr.nil ?_
      refine ⟨rfl, ?_⟩
      try refine Run.keep [0, 2, 3, 4, 5, 6, 15, 20, 31, 46, 69, 82, 83, 103, 106, 138, 141, 185] rfl rfl ?_
      repeat (first | refine Run.seq ?_ | refine Run.skip ?_)
      first | refine Run.condT rfl rfl ?_ | refine Run.condF rfl rfl ?_ | refine Run.condT rfl (by assumption) ?_ | refine Run.condF rfl (by assumption) ?_
      rw [if_pos (by omega)] at hlead
      subst hlead
      repeat (first | refine Run.seq ?_ | refine Run.skip ?_ | refine Run.block ?_)
      refine Run.region ?_
      refine O.assign rfl rfl ?_
      refine O.nil ?_
      try refine Run.keep [0, 2, 3, 4, 5, 6, 15, 20, 31, 46, 69, 82, 83, 103, 106, 138, 141, 185] rfl rfl ?_
      refine Run.ret ?_
      repeat (first | refine thenR_ret ?_ | refine roundR_ret ?_ | refine blockR_ret ?_)
      exact Ends.flat hE (.inr rfl) rfl rfl (AVle.of_eq rfl) rfl
    obtain ⟨x1, hx1⟩ : ∃ x1, t[1]? = some x1 := ⟨_, List.getElem?_eq_getElem (by omega)⟩
    have hg1 : t.getD 1 0 = x1 := by rw [List.getD_eq_getElem?_getD, hx1]; rfl
    have hat1 : ((tb t).map (PV.int .u8))[(1 : Int).toNat]? = some (.int .u8 ((x1.toNat : Nat) : Int)) := tb_at hx1
    rw [hg1] at hlead
    have hx1l : x1.toNat < 256 := x1.toNat_lt
    by_cases n1 : x1.toNat < LO
    ·
      repeat (first | refine Run.seq ?_ | refine Run.skip ?_ | refine Run.block ?_)
      refine Run.draw mixed rfl ?_
      refine D.move rfl rfl ?_
      refine D.lenLst hE T27 rfl rfl rfl newest_pv rfl ?_; dsimp only
      first | refine D.cmp rfl rfl rfl (by first | exact decide_eq_true (by omega) | exact decide_eq_false (by omega)) rfl ?_ | refine D.cmp rfl rfl rfl rfl rfl ?_
      refine D.move rfl rfl ?_
      first | (refine D.yes rfl rfl (by first | rfl | assumption) ?_; refine D.move rfl rfl ?_) | refine D.no rfl rfl rfl rfl ?_
      first | (refine D.yes rfl rfl (by first | rfl | assumption) ?_; refine D.index hE T27 rfl T5 rfl rfl (by first | exact newest_pv | exact newest_gl rfl rfl | trivial) rfl (by omega) (by first | assumption | rfl) rfl rfl rfl ?_) | refine D.no rfl rfl rfl rfl ?_
      first | (refine D.yes rfl rfl (by first | rfl | assumption) ?_; first | refine D.loadS hE T5 rfl rfl rfl (by rfl) rfl ?_ | refine D.loadE hE T5 rfl rfl (by rfl) rfl ?_ | refine D.load hE T5 rfl rfl rfl rfl ?_) | refine D.no rfl rfl rfl rfl ?_
      first | (refine D.yes rfl rfl (by first | rfl | assumption) ?_; refine D.field hE L95 rfl rfl rfl rfl ?_) | refine D.no rfl rfl rfl rfl ?_
      first | (refine D.yes rfl rfl (by first | rfl | assumption) ?_; first | refine D.loadS hE T5 rfl rfl rfl (by rfl) rfl ?_ | refine D.loadE hE T5 rfl rfl (by rfl) rfl ?_ | refine D.load hE T5 rfl rfl rfl rfl ?_) | refine D.no rfl rfl rfl rfl ?_
      first | (refine D.yes rfl rfl (by first | rfl | assumption) ?_; first | refine D.cmp rfl rfl rfl (by first | exact decide_eq_true (by omega) | exact decide_eq_false (by omega)) rfl ?_ | refine D.cmp rfl rfl rfl rfl rfl ?_) | refine D.no rfl rfl rfl rfl ?_
      refine D.pick rfl rfl rfl rfl rfl ?_
      refine D.move rfl rfl ?_
      first | (refine D.yes rfl rfl (by first | rfl | assumption) ?_; refine D.field hE L95 rfl rfl rfl rfl ?_) | refine D.no rfl rfl rfl rfl ?_
      first | (refine D.yes rfl rfl (by first | rfl | assumption) ?_; first | refine D.loadS hE T5 rfl rfl rfl (by rfl) rfl ?_ | refine D.loadE hE T5 rfl rfl (by rfl) rfl ?_ | refine D.load hE T5 rfl rfl rfl rfl ?_) | refine D.no rfl rfl rfl rfl ?_
      first | (refine D.yes rfl rfl (by first | rfl | assumption) ?_; refine D.move rfl rfl ?_) | refine D.no rfl rfl rfl rfl ?_
      first | (refine D.yes rfl rfl (by first | rfl | assumption) ?_; refine D.index hE T27 rfl T5 rfl rfl (by first | exact newest_pv | exact newest_gl rfl rfl | trivial) rfl (by omega) (by first | assumption | rfl) rfl rfl rfl ?_) | refine D.no rfl rfl rfl rfl ?_
      first | (refine D.yes rfl rfl (by first | rfl | assumption) ?_; first | refine D.loadS hE T5 rfl rfl rfl (by rfl) rfl ?_ | refine D.loadE hE T5 rfl rfl (by rfl) rfl ?_ | refine D.load hE T5 rfl rfl rfl rfl ?_) | refine D.no rfl rfl rfl rfl ?_
      first | (refine D.yes rfl rfl (by first | rfl | assumption) ?_; first | refine D.cmp rfl rfl rfl (by first | exact decide_eq_true (by omega) | exact decide_eq_false (by omega)) rfl ?_ | refine D.cmp rfl rfl rfl rfl rfl ?_) | refine D.no rfl rfl rfl rfl ?_
      refine D.pick rfl rfl rfl rfl rfl ?_
      refine Dr.nil ?_
      refine ⟨rfl, ?_⟩
      try refine Run.keep [0, 2, 3, 4, 5, 6, 15, 20, 31, 46, 69, 82, 83, 103, 106, 138, 141, 185] rfl rfl ?_
      repeat (first | refine Run.seq ?_ | refine Run.skip ?_)
      first | refine Run.condT rfl rfl ?_ | refine Run.condF rfl rfl ?_ | refine Run.condT rfl (by assumption) ?_ | refine Run.condF rfl (by assumption) ?_
      rw [if_pos (by omega)] at hlead
      subst hlead
      repeat (first | refine Run.seq ?_ | refine Run.skip ?_ | refine Run.block ?_)
      refine Run.region ?_
      refine O.assign rfl rfl ?_
      refine O.nil ?_
      try refine Run.keep [0, 2, 3, 4, 5, 6, 15, 20, 31, 46, 69, 82, 83, 103, 106, 138, 141, 185] rfl rfl ?_
      refine Run.ret ?_
      repeat (first | refine thenR_ret ?_ | refine roundR_ret ?_ | refine blockR_ret ?_)
      exact Ends.flat hE (.inr rfl) rfl rfl (AVle.of_eq rfl) rfl
    by_cases n2 : HI < x1.toNat
    ·
      repeat (first | refine Run.seq ?_ | refine Run.skip ?_ | refine Run.block ?_)
      refine Run.draw mixed rfl ?_
      refine D.move rfl rfl ?_
      refine D.lenLst hE T27 rfl rfl rfl newest_pv rfl ?_; dsimp only
      first | refine D.cmp rfl rfl rfl (by first | exact decide_eq_true (by omega) | exact decide_eq_false (by omega)) rfl ?_ | refine D.cmp rfl rfl rfl rfl rfl ?_
      refine D.move rfl rfl ?_
      first | (refine D.yes rfl rfl (by first | rfl | assumption) ?_; refine D.move rfl rfl ?_) | refine D.no rfl rfl rfl rfl ?_
      first | (refine D.yes rfl rfl (by first | rfl | assumption) ?_; refine D.index hE T27 rfl T5 rfl rfl (by first | exact newest_pv | exact newest_gl rfl rfl | trivial) rfl (by omega) (by first | assumption | rfl) rfl rfl rfl ?_) | refine D.no rfl rfl rfl rfl ?_
      first | (refine D.yes rfl rfl (by first | rfl | assumption) ?_; first | refine D.loadS hE T5 rfl rfl rfl (by rfl) rfl ?_ | refine D.loadE hE T5 rfl rfl (by rfl) rfl ?_ | refine D.load hE T5 rfl rfl rfl rfl ?_) | refine D.no rfl rfl rfl rfl ?_
      first | (refine D.yes rfl rfl (by first | rfl | assumption) ?_; refine D.field hE L95 rfl rfl rfl rfl ?_) | refine D.no rfl rfl rfl rfl ?_
      first | (refine D.yes rfl rfl (by first | rfl | assumption) ?_; first | refine D.loadS hE T5 rfl rfl rfl (by rfl) rfl ?_ | refine D.loadE hE T5 rfl rfl (by rfl) rfl ?_ | refine D.load hE T5 rfl rfl rfl rfl ?_) | refine D.no rfl rfl rfl rfl ?_
      first | (refine D.yes rfl rfl (by first | rfl | assumption) ?_; first | refine D.cmp rfl rfl rfl (by first | exact decide_eq_true (by omega) | exact decide_eq_false (by omega)) rfl ?_ | refine D.cmp rfl rfl rfl rfl rfl ?_) | refine D.no rfl rfl rfl rfl ?_
      refine D.pick rfl rfl rfl rfl rfl ?_
      refine D.move rfl rfl ?_
      first | (refine D.yes rfl rfl (by first | rfl | assumption) ?_; refine D.field hE L95 rfl rfl rfl rfl ?_) | refine D.no rfl rfl rfl rfl ?_
      first | (refine D.yes rfl rfl (by first | rfl | assumption) ?_; first | refine D.loadS hE T5 rfl rfl rfl (by rfl) rfl ?_ | refine D.loadE hE T5 rfl rfl (by rfl) rfl ?_ | refine D.load hE T5 rfl rfl rfl rfl ?_) | refine D.no rfl rfl rfl rfl ?_
      first | (refine D.yes rfl rfl (by first | rfl | assumption) ?_; refine D.move rfl rfl ?_) | refine D.no rfl rfl rfl rfl ?_
      first | (refine D.yes rfl rfl (by first | rfl | assumption) ?_; refine D.index hE T27 rfl T5 rfl rfl (by first | exact newest_pv | exact newest_gl rfl rfl | trivial) rfl (by omega) (by first | assumption | rfl) rfl rfl rfl ?_) | refine D.no rfl rfl rfl rfl ?_
      first | (refine D.yes rfl rfl (by first | rfl | assumption) ?_; first | refine D.loadS hE T5 rfl rfl rfl (by rfl) rfl ?_ | refine D.loadE hE T5 rfl rfl (by rfl) rfl ?_ | refine D.load hE T5 rfl rfl rfl rfl ?_) | refine D.no rfl rfl rfl rfl ?_
      first | (refine D.yes rfl rfl (by first | rfl | assumption) ?_; first | refine D.cmp rfl rfl rfl (by first | exact decide_eq_true (by omega) | exact decide_eq_false (by omega)) rfl ?_ | refine D.cmp rfl rfl rfl rfl rfl ?_) | refine D.no rfl rfl rfl rfl ?_
      refine D.pick rfl rfl rfl rfl rfl ?_
      refine Dr.nil ?_
      refine ⟨rfl, ?_⟩
      try refine Run.keep [0, 2, 3, 4, 5, 6, 15, 20, 31, 46, 69, 82, 83, 103, 106, 138, 141, 185] rfl rfl ?_
      repeat (first | refine Run.seq ?_ | refine Run.skip ?_)
      first | refine Run.condT rfl rfl ?_ | refine Run.condF rfl rfl ?_ | refine Run.condT rfl (by assumption) ?_ | refine Run.condF rfl (by assumption) ?_
      rw [if_pos (by omega)] at hlead
      subst hlead
      repeat (first | refine Run.seq ?_ | refine Run.skip ?_ | refine Run.block ?_)
      refine Run.region ?_
      refine O.assign rfl rfl ?_
      refine O.nil ?_
      try refine Run.keep [0, 2, 3, 4, 5, 6, 15, 20, 31, 46, 69, 82, 83, 103, 106, 138, 141, 185] rfl rfl ?_
      refine Run.ret ?_
      repeat (first | refine thenR_ret ?_ | refine roundR_ret ?_ | refine blockR_ret ?_)
      exact Ends.flat hE (.inr rfl) rfl rfl (AVle.of_eq rfl) rfl
    repeat (first | refine Run.seq ?_ | refine Run.skip ?_ | refine Run.block ?_)
    refine Run.draw mixed rfl ?_
    refine D.move rfl rfl ?_
    refine D.lenLst hE T27 rfl rfl rfl newest_pv rfl ?_; dsimp only
    first | refine D.cmp rfl rfl rfl (by first | exact decide_eq_true (by omega) | exact decide_eq_false (by omega)) rfl ?_ | refine D.cmp rfl rfl rfl rfl rfl ?_
    refine D.move rfl rfl ?_
    first | (refine D.yes rfl rfl (by first | rfl | assumption) ?_; refine D.move rfl rfl ?_) | refine D.no rfl rfl rfl rfl ?_
    first | (refine D.yes rfl rfl (by first | rfl | assumption) ?_; refine D.index hE T27 rfl T5 rfl rfl (by first | exact newest_pv | exact newest_gl rfl rfl | trivial) rfl (by omega) (by first | assumption | rfl) rfl rfl rfl ?_) | refine D.no rfl rfl rfl rfl ?_
    first | (refine D.yes rfl rfl (by first | rfl | assumption) ?_; first | refine D.loadS hE T5 rfl rfl rfl (by rfl) rfl ?_ | refine D.loadE hE T5 rfl rfl (by rfl) rfl ?_ | refine D.load hE T5 rfl rfl rfl rfl ?_) | refine D.no rfl rfl rfl rfl ?_
    first | (refine D.yes rfl rfl (by first | rfl | assumption) ?_; refine D.field hE L95 rfl rfl rfl rfl ?_) | refine D.no rfl rfl rfl rfl ?_
    first | (refine D.yes rfl rfl (by first | rfl | assumption) ?_; first | refine D.loadS hE T5 rfl rfl rfl (by rfl) rfl ?_ | refine D.loadE hE T5 rfl rfl (by rfl) rfl ?_ | refine D.load hE T5 rfl rfl rfl rfl ?_) | refine D.no rfl rfl rfl rfl ?_
    first | (refine D.yes rfl rfl (by first | rfl | assumption) ?_; first | refine D.cmp rfl rfl rfl (by first | exact decide_eq_true (by omega) | exact decide_eq_false (by omega)) rfl ?_ | refine D.cmp rfl rfl rfl rfl rfl ?_) | refine D.no rfl rfl rfl rfl ?_
    refine D.pick rfl rfl rfl rfl rfl ?_
    refine D.move rfl rfl ?_
    first | (refine D.yes rfl rfl (by first | rfl | assumption) ?_; refine D.field hE L95 rfl rfl rfl rfl ?_) | refine D.no rfl rfl rfl rfl ?_
    first | (refine D.yes rfl rfl (by first | rfl | assumption) ?_; first | refine D.loadS hE T5 rfl rfl rfl (by rfl) rfl ?_ | refine D.loadE hE T5 rfl rfl (by rfl) rfl ?_ | refine D.load hE T5 rfl rfl rfl rfl ?_) | refine D.no rfl rfl rfl rfl ?_
    first | (refine D.yes rfl rfl (by first | rfl | assumption) ?_; refine D.move rfl rfl ?_) | refine D.no rfl rfl rfl rfl ?_
    first | (refine D.yes rfl rfl (by first | rfl | assumption) ?_; refine D.index hE T27 rfl T5 rfl rfl (by first | exact newest_pv | exact newest_gl rfl rfl | trivial) rfl (by omega) (by first | assumption | rfl) rfl rfl rfl ?_) | refine D.no rfl rfl rfl rfl ?_
    first | (refine D.yes rfl rfl (by first | rfl | assumption) ?_; first | refine D.loadS hE T5 rfl rfl rfl (by rfl) rfl ?_ | refine D.loadE hE T5 rfl rfl (by rfl) rfl ?_ | refine D.load hE T5 rfl rfl rfl rfl ?_) | refine D.no rfl rfl rfl rfl ?_
    first | (refine D.yes rfl rfl (by first | rfl | assumption) ?_; first | refine D.cmp rfl rfl rfl (by first | exact decide_eq_true (by omega) | exact decide_eq_false (by omega)) rfl ?_ | refine D.cmp rfl rfl rfl rfl rfl ?_) | refine D.no rfl rfl rfl rfl ?_
    refine D.pick rfl rfl rfl rfl rfl ?_
    refine Dr.nil ?_
    refine ⟨rfl, ?_⟩
    try refine Run.keep [0, 2, 3, 4, 5, 6, 15, 20, 31, 46, 69, 82, 83, 103, 106, 138, 141, 185] rfl rfl ?_
    repeat (first | refine Run.seq ?_ | refine Run.skip ?_)
    first | refine Run.condT rfl rfl ?_ | refine Run.condF rfl rfl ?_ | refine Run.condT rfl (by assumption) ?_ | refine Run.condF rfl (by assumption) ?_
    rw [if_neg (by omega)] at hlead
    have hyk := tb_drop t 2
    have lk : (t.drop 2).length = t.length - 2 := List.length_drop
    dsimp only at hlead
    repeat (first | refine Run.seq ?_ | refine Run.skip ?_ | refine Run.block ?_)
    refine Run.region ?_
    refine O.move rfl rfl ?_
    refine O.slice hE T27 rfl T5 rfl rfl newest_pv rfl rfl rfl (by omega) (by rw [hm]; omega) (by omega) hyk rfl ?_
    refine O.assign rfl rfl ?_
    refine O.nil ?_
    try refine Run.keep [0, 2, 3, 4, 5, 6, 15, 20, 31, 46, 69, 82, 83, 103, 106, 138, 141, 185] rfl rfl ?_
    exact ih (t.drop 2) _ (SLe.drop (by repeat (first | exact TmIn.nil | refine TmIn.cons rfl ?_)) (by repeat (first | exact BxIn.nil | refine BxIn.cons rfl ?_)) rfl rfl) ⟨hlead.symm, by omega⟩ (by omega)
  rw [if_neg s2] at hlead
  by_cases s3 : SZ = 3
  ·
    subst s3
    rw [if_pos rfl] at hlead
    repeat (first | refine Run.seq ?_ | refine Run.skip ?_ | refine Run.block ?_)
    refine Run.region ?_
    first | refine O.cmp rfl rfl rfl (by first | exact decide_eq_true (by omega) | exact decide_eq_false (by omega)) rfl ?_ | refine O.cmp rfl rfl rfl rfl rfl ?_
    refine O.assign rfl rfl ?_
    refine O.nil ?_
    try refine Run.keep [0, 2, 3, 4, 5, 6, 15, 20, 31, 46, 69, 82, 83, 103, 106, 138, 141, 185] rfl rfl ?_
    repeat (first | refine Run.seq ?_ | refine Run.skip ?_)
    first | refine Run.condT rfl rfl ?_ | refine Run.condF rfl rfl ?_ | refine Run.condT rfl (by assumption) ?_ | refine Run.condF rfl (by assumption) ?_
    repeat (first | refine Run.seq ?_ | refine Run.skip ?_ | refine Run.block ?_)
    refine Run.region ?_
    first | refine O.cmp rfl rfl rfl (by first | exact decide_eq_true (by omega) | exact decide_eq_false (by omega)) rfl ?_ | refine O.cmp rfl rfl rfl rfl rfl ?_
    refine O.assign rfl rfl ?_
    refine O.nil ?_
    try refine Run.keep [0, 2, 3, 4, 5, 6, 15, 20, 31, 46, 69, 82, 83, 103, 106, 138, 141, 185] rfl rfl ?_
    repeat (first | refine Run.seq ?_ | refine Run.skip ?_)
    first | refine Run.condT rfl rfl ?_ | refine Run.condF rfl rfl ?_ | refine Run.condT rfl (by assumption) ?_ | refine Run.condF rfl (by assumption) ?_
    by_cases n0 : t.length < 3
    ·
      repeat (first | refine Run.seq ?_ | refine Run.skip ?_ | refine Run.block ?_)
      refine Run.draw mixed rfl ?_
      refine D.move rfl rfl ?_
      refine D.lenLst hE T27 rfl rfl rfl newest_pv rfl ?_; dsimp only
      first | refine D.cmp rfl rfl rfl (by first | exact decide_eq_true (by omega) | exact decide_eq_false (by omega)) rfl ?_ | refine D.cmp rfl rfl rfl rfl rfl ?_
      refine D.move rfl rfl ?_
      first | (refine D.yes rfl rfl (by first | rfl | assumption) ?_; refine D.move rfl rfl ?_) | refine D.no rfl rfl rfl rfl ?_
      first | (refine D.yes rfl rfl (by first | rfl | assumption) ?_; refine D.index hE T27 rfl T5 rfl rfl (by first | exact newest_pv | exact newest_gl rfl rfl | trivial) rfl (by omega) (by first | assumption | rfl) rfl rfl rfl ?_) | refine D.no rfl rfl rfl rfl ?_
      first | (refine D.yes rfl rfl (by first | rfl | assumption) ?_; first | refine D.loadS hE T5 rfl rfl rfl (by rfl) rfl ?_ | refine D.loadE hE T5 rfl rfl (by rfl) rfl ?_ | refine D.load hE T5 rfl rfl rfl rfl ?_) | refine D.no rfl rfl rfl rfl ?_
      first | (refine D.yes rfl rfl (by first | rfl | assumption) ?_; refine D.field hE L95 rfl rfl rfl rfl ?_) | refine D.no rfl rfl rfl rfl ?_
      first | (refine D.yes rfl rfl (by first | rfl | assumption) ?_; first | refine D.loadS hE T5 rfl rfl rfl (by rfl) rfl ?_ | refine D.loadE hE T5 rfl rfl (by rfl) rfl ?_ | refine D.load hE T5 rfl rfl rfl rfl ?_) | refine D.no rfl rfl rfl rfl ?_
      first | (refine D.yes rfl rfl (by first | rfl | assumption) ?_; first | refine D.cmp rfl rfl rfl (by first | exact decide_eq_true (by omega) | exact decide_eq_false (by omega)) rfl ?_ | refine D.cmp rfl rfl rfl rfl rfl ?_) | refine D.no rfl rfl rfl rfl ?_
      refine D.pick rfl rfl rfl rfl rfl ?_
      refine D.move rfl rfl ?_
      first | (refine D.yes rfl rfl (by first | rfl | assumption) ?_; refine D.field hE L95 rfl rfl rfl rfl ?_) | refine D.no rfl rfl rfl rfl ?_
      first | (refine D.yes rfl rfl (by first | rfl | assumption) ?_; first | refine D.loadS hE T5 rfl rfl rfl (by rfl) rfl ?_ | refine D.loadE hE T5 rfl rfl (by rfl) rfl ?_ | refine D.load hE T5 rfl rfl rfl rfl ?_) | refine D.no rfl rfl rfl rfl ?_
      first | (refine D.yes rfl rfl (by first | rfl | assumption) ?_; refine D.move rfl rfl ?_) | refine D.no rfl rfl rfl rfl ?_
      first | (refine D.yes rfl rfl (by first | rfl | assumption) ?_; refine D.index hE T27 rfl T5 rfl rfl (by first | exact newest_pv | exact newest_gl rfl rfl | trivial) rfl (by omega) (by first | assumption | rfl) rfl rfl rfl ?_) | refine D.no rfl rfl rfl rfl ?_
      first | (refine D.yes rfl rfl (by first | rfl | assumption) ?_; first | refine D.loadS hE T5 rfl rfl rfl (by rfl) rfl ?_ | refine D.loadE hE T5 rfl rfl (by rfl) rfl ?_ | refine D.load hE T5 rfl rfl rfl rfl ?_) | refine D.no rfl rfl rfl rfl ?_
      first | (refine D.yes rfl rfl (by first | rfl | assumption) ?_; first | refine D.cmp rfl rfl rfl (by first | exact decide_eq_true (by omega) | exact decide_eq_false (by omega)) rfl ?_ | refine D.cmp rfl rfl rfl rfl rfl ?_) | refine D.no rfl rfl rfl rfl ?_
      refine D.pick rfl rfl rfl rfl rfl ?_
      refine D.move rfl rfl ?_
      first | (refine D.yes rfl rfl (by first | rfl | assumption) ?_; refine D.move rfl rfl ?_) | refine D.no rfl rfl rfl rfl ?_
      first | (refine D.yes rfl rfl (by first | rfl | assumption) ?_; refine D.index hE T27 rfl T5 rfl rfl (by first | exact newest_pv | exact newest_gl rfl rfl | trivial) rfl (by omega) (by first | assumption | rfl) rfl rfl rfl ?_) | refine D.no rfl rfl rfl rfl ?_
      first | (refine D.yes rfl rfl (by first | rfl | assumption) ?_; first | refine D.loadS hE T5 rfl rfl rfl (by rfl) rfl ?_ | refine D.loadE hE T5 rfl rfl (by rfl) rfl ?_ | refine D.load hE T5 rfl rfl rfl rfl ?_) | refine D.no rfl rfl rfl rfl ?_
      first | (refine D.yes rfl rfl (by first | rfl | assumption) ?_; first | refine D.cmp rfl rfl rfl (by first | exact decide_eq_true (by omega) | exact decide_eq_false (by omega)) rfl ?_ | refine D.cmp rfl rfl rfl rfl rfl ?_) | refine D.no rfl rfl rfl rfl ?_
      refine D.pick rfl rfl rfl rfl rfl ?_
      refine D.move rfl rfl ?_
      first | (refine D.yes rfl rfl (by first | rfl | assumption) ?_; refine D.move rfl rfl ?_) | refine D.no rfl rfl rfl rfl ?_
      first | (refine D.yes rfl rfl (by first | rfl | assumption) ?_; refine D.index hE T27 rfl T5 rfl rfl (by first | exact newest_pv | exact newest_gl rfl rfl | trivial) rfl (by omega) (by first | assumption | rfl) rfl rfl rfl ?_) | refine D.no rfl rfl rfl rfl ?_
      first | (refine D.yes rfl rfl (by first | rfl | assumption) ?_; first | refine D.loadS hE T5 rfl rfl rfl (by rfl) rfl ?_ | refine D.loadE hE T5 rfl rfl (by rfl) rfl ?_ | refine D.load hE T5 rfl rfl rfl rfl ?_) | refine D.no rfl rfl rfl rfl ?_
      first | (refine D.yes rfl rfl (by first | rfl | assumption) ?_; first | refine D.cmp rfl rfl rfl (by first | exact decide_eq_true (by omega) | exact decide_eq_false (by omega)) rfl ?_ | refine D.cmp rfl rfl rfl rfl rfl ?_) | refine D.no rfl rfl rfl rfl ?_
      refine D.pick rfl rfl rfl rfl rfl ?_
      refine Dr.nil ?_
      refine ⟨rfl, ?_⟩
      try refine Run.keep [0, 2, 3, 4, 5, 6, 15, 20, 31, 46, 69, 82, 83, 103, 106, 138, 141, 185] rfl rfl ?_
      repeat (first | refine Run.seq ?_ | refine Run.skip ?_)
      first | refine Run.condT rfl rfl ?_ | refine Run.condF rfl rfl ?_ | refine Run.condT rfl (by assumption) ?_ | refine Run.condF rfl (by assumption) ?_
      rw [if_pos (by omega)] at hlead
      subst hlead
      repeat (first | refine Run.seq ?_ | refine Run.skip ?_ | refine Run.block ?_)
      refine Run.region ?_
      refine O.assign rfl rfl ?_
      refine O.nil ?_
      try refine Run.keep [0, 2, 3, 4, 5, 6, 15, 20, 31, 46, 69, 82, 83, 103, 106, 138, 141, 185] rfl rfl ?_
      refine Run.ret ?_
      repeat (first | refine thenR_ret ?_ | refine roundR_ret ?_ | refine blockR_ret ?_)
      exact Ends.flat hE (.inr rfl) rfl rfl (AVle.of_eq rfl) rfl
    obtain ⟨x1, hx1⟩ : ∃ x1, t[1]? = some x1 := ⟨_, List.getElem?_eq_getElem (by omega)⟩
    have hg1 : t.getD 1 0 = x1 := by rw [List.getD_eq_getElem?_getD, hx1]; rfl
    have hat1 : ((tb t).map (PV.int .u8))[(1 : Int).toNat]? = some (.int .u8 ((x1.toNat : Nat) : Int)) := tb_at hx1
    rw [hg1] at hlead
    have hx1l : x1.toNat < 256 := x1.toNat_lt
    obtain ⟨x2, hx2⟩ : ∃ x2, t[2]? = some x2 := ⟨_, List.getElem?_eq_getElem (by omega)⟩
    have hg2 : t.getD 2 0 = x2 := by rw [List.getD_eq_getElem?_getD, hx2]; rfl
    have hat2 : ((tb t).map (PV.int .u8))[(2 : Int).toNat]? = some (.int .u8 ((x2.toNat : Nat) : Int)) := tb_at hx2
    rw [hg2] at hlead
    have hx2l : x2.toNat < 256 := x2.toNat_lt
    by_cases n1 : x1.toNat < LO
    ·
      repeat (first | refine Run.seq ?_ | refine Run.skip ?_ | refine Run.block ?_)
      refine Run.draw mixed rfl ?_
      refine D.move rfl rfl ?_
      refine D.lenLst hE T27 rfl rfl rfl newest_pv rfl ?_; dsimp only
      first | refine D.cmp rfl rfl rfl (by first | exact decide_eq_true (by omega) | exact decide_eq_false (by omega)) rfl ?_ | refine D.cmp rfl rfl rfl rfl rfl ?_
      refine D.move rfl rfl ?_
      first | (refine D.yes rfl rfl (by first | rfl | assumption) ?_; refine D.move rfl rfl ?_) | refine D.no rfl rfl rfl rfl ?_
      first | (refine D.yes rfl rfl (by first | rfl | assumption) ?_; refine D.index hE T27 rfl T5 rfl rfl (by first | exact newest_pv | exact newest_gl rfl rfl | trivial) rfl (by omega) (by first | assumption | rfl) rfl rfl rfl ?_) | refine D.no rfl rfl rfl rfl ?_
      first | (refine D.yes rfl rfl (by first | rfl | assumption) ?_; first | refine D.loadS hE T5 rfl rfl rfl (by rfl) rfl ?_ | refine D.loadE hE T5 rfl rfl (by rfl) rfl ?_ | refine D.load hE T5 rfl rfl rfl rfl ?_) | refine D.no rfl rfl rfl rfl ?_
      first | (refine D.yes rfl rfl (by first | rfl | assumption) ?_; refine D.field hE L95 rfl rfl rfl rfl ?_) | refine D.no rfl rfl rfl rfl ?_
      first | (refine D.yes rfl rfl (by first | rfl | assumption) ?_; first | refine D.loadS hE T5 rfl rfl rfl (by rfl) rfl ?_ | refine D.loadE hE T5 rfl rfl (by rfl) rfl ?_ | refine D.load hE T5 rfl rfl rfl rfl ?_) | refine D.no rfl rfl rfl rfl ?_
      first | (refine D.yes rfl rfl (by first | rfl | assumption) ?_; first | refine D.cmp rfl rfl rfl (by first | exact decide_eq_true (by omega) | exact decide_eq_false (by omega)) rfl ?_ | refine D.cmp rfl rfl rfl rfl rfl ?_) | refine D.no rfl rfl rfl rfl ?_
      refine D.pick rfl rfl rfl rfl rfl ?_
      refine D.move rfl rfl ?_
      first | (refine D.yes rfl rfl (by first | rfl | assumption) ?_; refine D.field hE L95 rfl rfl rfl rfl ?_) | refine D.no rfl rfl rfl rfl ?_
      first | (refine D.yes rfl rfl (by first | rfl | assumption) ?_; first | refine D.loadS hE T5 rfl rfl rfl (by rfl) rfl ?_ | refine D.loadE hE T5 rfl rfl (by rfl) rfl ?_ | refine D.load hE T5 rfl rfl rfl rfl ?_) | refine D.no rfl rfl rfl rfl ?_
      first | (refine D.yes rfl rfl (by first | rfl | assumption) ?_; refine D.move rfl rfl ?_) | refine D.no rfl rfl rfl rfl ?_
      first | (refine D.yes rfl rfl (by first | rfl | assumption) ?_; refine D.index hE T27 rfl T5 rfl rfl (by first | exact newest_pv | exact newest_gl rfl rfl | trivial) rfl (by omega) (by first | assumption | rfl) rfl rfl rfl ?_) | refine D.no rfl rfl rfl rfl ?_
      first | (refine D.yes rfl rfl (by first | rfl | assumption) ?_; first | refine D.loadS hE T5 rfl rfl rfl (by rfl) rfl ?_ | refine D.loadE hE T5 rfl rfl (by rfl) rfl ?_ | refine D.load hE T5 rfl rfl rfl rfl ?_) | refine D.no rfl rfl rfl rfl ?_
      first | (refine D.yes rfl rfl (by first | rfl | assumption) ?_; first | refine D.cmp rfl rfl rfl (by first | exact decide_eq_true (by omega) | exact decide_eq_false (by omega)) rfl ?_ | refine D.cmp rfl rfl rfl rfl rfl ?_) | refine D.no rfl rfl rfl rfl ?_
      refine D.pick rfl rfl rfl rfl rfl ?_
      refine D.move rfl rfl ?_
      first | (refine D.yes rfl rfl (by first | rfl | assumption) ?_; refine D.move rfl rfl ?_) | refine D.no rfl rfl rfl rfl ?_
      first | (refine D.yes rfl rfl (by first | rfl | assumption) ?_; refine D.index hE T27 rfl T5 rfl rfl (by first | exact newest_pv | exact newest_gl rfl rfl | trivial) rfl (by omega) (by first | assumption | rfl) rfl rfl rfl ?_) | refine D.no rfl rfl rfl rfl ?_
      first | (refine D.yes rfl rfl (by first | rfl | assumption) ?_; first | refine D.loadS hE T5 rfl rfl rfl (by rfl) rfl ?_ | refine D.loadE hE T5 rfl rfl (by rfl) rfl ?_ | refine D.load hE T5 rfl rfl rfl rfl ?_) | refine D.no rfl rfl rfl rfl ?_
      first | (refine D.yes rfl rfl (by first | rfl | assumption) ?_; first | refine D.cmp rfl rfl rfl (by first | exact decide_eq_true (by omega) | exact decide_eq_false (by omega)) rfl ?_ | refine D.cmp rfl rfl rfl rfl rfl ?_) | refine D.no rfl rfl rfl rfl ?_
      refine D.pick rfl rfl rfl rfl rfl ?_
      refine D.move rfl rfl ?_
      first | (refine D.yes rfl rfl (by first | rfl | assumption) ?_; refine D.move rfl rfl ?_) | refine D.no rfl rfl rfl rfl ?_
      first | (refine D.yes rfl rfl (by first | rfl | assumption) ?_; refine D.index hE T27 rfl T5 rfl rfl (by first | exact newest_pv | exact newest_gl rfl rfl | trivial) rfl (by omega) (by first | assumption | rfl) rfl rfl rfl ?_) | refine D.no rfl rfl rfl rfl ?_
      first | (refine D.yes rfl rfl (by first | rfl | assumption) ?_; first | refine D.loadS hE T5 rfl rfl rfl (by rfl) rfl ?_ | refine D.loadE hE T5 rfl rfl (by rfl) rfl ?_ | refine D.load hE T5 rfl rfl rfl rfl ?_) | refine D.no rfl rfl rfl rfl ?_
      first | (refine D.yes rfl rfl (by first | rfl | assumption) ?_; first | refine D.cmp rfl rfl rfl (by first | exact decide_eq_true (by omega) | exact decide_eq_false (by omega)) rfl ?_ | refine D.cmp rfl rfl rfl rfl rfl ?_) | refine D.no rfl rfl rfl rfl ?_
      refine D.pick rfl rfl rfl rfl rfl ?_
      refine Dr.nil ?_
      refine ⟨rfl, ?_⟩
      try refine Run.keep [0, 2, 3, 4, 5, 6, 15, 20, 31, 46, 69, 82, 83, 103, 106, 138, 141, 185] rfl rfl ?_
      repeat (first | refine Run.seq ?_ | refine Run.skip ?_)
      first | refine Run.condT rfl rfl ?_ | refine Run.condF rfl rfl ?_ | refine Run.condT rfl (by assumption) ?_ | refine Run.condF rfl (by assumption) ?_
      rw [if_pos (by omega)] at hlead
      subst hlead
      repeat (first | refine Run.seq ?_ | refine Run.skip ?_ | refine Run.block ?_)
      refine Run.region ?_
      refine O.assign rfl rfl ?_
      refine O.nil ?_
      try refine Run.keep [0, 2, 3, 4, 5, 6, 15, 20, 31, 46, 69, 82, 83, 103, 106, 138, 141, 185] rfl rfl ?_
      refine Run.ret ?_
      repeat (first | refine thenR_ret ?_ | refine roundR_ret ?_ | refine blockR_ret ?_)
      exact Ends.flat hE (.inr rfl) rfl rfl (AVle.of_eq rfl) rfl
    by_cases n2 : HI < x1.toNat
    ·
      repeat (first | refine Run.seq ?_ | refine Run.skip ?_ | refine Run.block ?_)
      refine Run.draw mixed rfl ?_
      refine D.move rfl rfl ?_
      refine D.lenLst hE T27 rfl rfl rfl newest_pv rfl ?_; dsimp only
      first | refine D.cmp rfl rfl rfl (by first | exact decide_eq_true (by omega) | exact decide_eq_false (by omega)) rfl ?_ | refine D.cmp rfl rfl rfl rfl rfl ?_
      refine D.move rfl rfl ?_
      first | (refine D.yes rfl rfl (by first | rfl | assumption) ?_; refine D.move rfl rfl ?_) | refine D.no rfl rfl rfl rfl ?_
      first | (refine D.yes rfl rfl (by first | rfl | assumption) ?_; refine D.index hE T27 rfl T5 rfl rfl (by first | exact newest_pv | exact newest_gl rfl rfl | trivial) rfl (by omega) (by first | assumption | rfl) rfl rfl rfl ?_) | refine D.no rfl rfl rfl rfl ?_
      first | (refine D.yes rfl rfl (by first | rfl | assumption) ?_; first | refine D.loadS hE T5 rfl rfl rfl (by rfl) rfl ?_ | refine D.loadE hE T5 rfl rfl (by rfl) rfl ?_ | refine D.load hE T5 rfl rfl rfl rfl ?_) | refine D.no rfl rfl rfl rfl ?_
      first | (refine D.yes rfl rfl (by first | rfl | assumption) ?_; refine D.field hE L95 rfl rfl rfl rfl ?_) | refine D.no rfl rfl rfl rfl ?_
      first | (refine D.yes rfl rfl (by first | rfl | assumption) ?_; first | refine D.loadS hE T5 rfl rfl rfl (by rfl) rfl ?_ | refine D.loadE hE T5 rfl rfl (by rfl) rfl ?_ | refine D.load hE T5 rfl rfl rfl rfl ?_) | refine D.no rfl rfl rfl rfl ?_
      first | (refine D.yes rfl rfl (by first | rfl | assumption) ?_; first | refine D.cmp rfl rfl rfl (by first | exact decide_eq_true (by omega) | exact decide_eq_false (by omega)) rfl ?_ | refine D.cmp rfl rfl rfl rfl rfl ?_) | refine D.no rfl rfl rfl rfl ?_
      refine D.pick rfl rfl rfl rfl rfl ?_
      refine D.move rfl rfl ?_
      first | (refine D.yes rfl rfl (by first | rfl | assumption) ?_; refine D.field hE L95 rfl rfl rfl rfl ?_) | refine D.no rfl rfl rfl rfl ?_
      first | (refine D.yes rfl rfl (by first | rfl | assumption) ?_; first | refine D.loadS hE T5 rfl rfl rfl (by rfl) rfl ?_ | refine D.loadE hE T5 rfl rfl (by rfl) rfl ?_ | refine D.load hE T5 rfl rfl rfl rfl ?_) | refine D.no rfl rfl rfl rfl ?_
      first | (refine D.yes rfl rfl (by first | rfl | assumption) ?_; refine D.move rfl rfl ?_) | refine D.no rfl rfl rfl rfl ?_
      first | (refine D.yes rfl rfl (by first | rfl | assumption) ?_; refine D.index hE T27 rfl T5 rfl rfl (by first | exact newest_pv | exact newest_gl rfl rfl | trivial) rfl (by omega) (by first | assumption | rfl) rfl rfl rfl ?_) | refine D.no rfl rfl rfl rfl ?_
      first | (refine D.yes rfl rfl (by first | rfl | assumption) ?_; first | refine D.loadS hE T5 rfl rfl rfl (by rfl) rfl ?_ | refine D.loadE hE T5 rfl rfl (by rfl) rfl ?_ | refine D.load hE T5 rfl rfl rfl rfl ?_) | refine D.no rfl rfl rfl rfl ?_
      first | (refine D.yes rfl rfl (by first | rfl | assumption) ?_; first | refine D.cmp rfl rfl rfl (by first | exact decide_eq_true (by omega) | exact decide_eq_false (by omega)) rfl ?_ | refine D.cmp rfl rfl rfl rfl rfl ?_) | refine D.no rfl rfl rfl rfl ?_
      refine D.pick rfl rfl rfl rfl rfl ?_
      refine D.move rfl rfl ?_
      first | (refine D.yes rfl rfl (by first | rfl | assumption) ?_; refine D.move rfl rfl ?_) | refine D.no rfl rfl rfl rfl ?_
      first | (refine D.yes rfl rfl (by first | rfl | assumption) ?_; refine D.index hE T27 rfl T5 rfl rfl (by first | exact newest_pv | exact newest_gl rfl rfl | trivial) rfl (by omega) (by first | assumption | rfl) rfl rfl rfl ?_) | refine D.no rfl rfl rfl rfl ?_
      first | (refine D.yes rfl rfl (by first | rfl | assumption) ?_; first | refine D.loadS hE T5 rfl rfl rfl (by rfl) rfl ?_ | refine D.loadE hE T5 rfl rfl (by rfl) rfl ?_ | refine D.load hE T5 rfl rfl rfl rfl ?_) | refine D.no rfl rfl rfl rfl ?_
      first | (refine D.yes rfl rfl (by first | rfl | assumption) ?_; first | refine D.cmp rfl rfl rfl (by first | exact decide_eq_true (by omega) | exact decide_eq_false (by omega)) rfl ?_ | refine D.cmp rfl rfl rfl rfl rfl ?_) | refine D.no rfl rfl rfl rfl ?_
      refine D.pick rfl rfl rfl rfl rfl ?_
      refine D.move rfl rfl ?_
      first | (refine D.yes rfl rfl (by first | rfl | assumption) ?_; refine D.move rfl rfl ?_) | refine D.no rfl rfl rfl rfl ?_
      first | (refine D.yes rfl rfl (by first | rfl | assumption) ?_; refine D.index hE T27 rfl T5 rfl rfl (by first | exact newest_pv | exact newest_gl rfl rfl | trivial) rfl (by omega) (by first | assumption | rfl) rfl rfl rfl ?_) | refine D.no rfl rfl rfl rfl ?_
      first | (refine D.yes rfl rfl (by first | rfl | assumption) ?_; first | refine D.loadS hE T5 rfl rfl rfl (by rfl) rfl ?_ | refine D.loadE hE T5 rfl rfl (by rfl) rfl ?_ | refine D.load hE T5 rfl rfl rfl rfl ?_) | refine D.no rfl rfl rfl rfl ?_
      first | (refine D.yes rfl rfl (by first | rfl | assumption) ?_; first | refine D.cmp rfl rfl rfl (by first | exact decide_eq_true (by omega) | exact decide_eq_false (by omega)) rfl ?_ | refine D.cmp rfl rfl rfl rfl rfl ?_) | refine D.no rfl rfl rfl rfl ?_
      refine D.pick rfl rfl rfl rfl rfl ?_
      refine Dr.nil ?_
      refine ⟨rfl, ?_⟩
      try refine Run.keep [0, 2, 3, 4, 5, 6, 15, 20, 31, 46, 69, 82, 83, 103, 106, 138, 141, 185] rfl rfl ?_
      repeat (first | refine Run.seq ?_ | refine Run.skip ?_)
      first | refine Run.condT rfl rfl ?_ | refine Run.condF rfl rfl ?_ | refine Run.condT rfl (by assumption) ?_ | refine Run.condF rfl (by assumption) ?_
      rw [if_pos (by omega)] at hlead
      subst hlead
      repeat (first | refine Run.seq ?_ | refine Run.skip ?_ | refine Run.block ?_)
      refine Run.region ?_
      refine O.assign rfl rfl ?_
      refine O.nil ?_
      try refine Run.keep [0, 2, 3, 4, 5, 6, 15, 20, 31, 46, 69, 82, 83, 103, 106, 138, 141, 185] rfl rfl ?_
      refine Run.ret ?_
      repeat (first | refine thenR_ret ?_ | refine roundR_ret ?_ | refine blockR_ret ?_)
      exact Ends.flat hE (.inr rfl) rfl rfl (AVle.of_eq rfl) rfl
    by_cases n3 : x2.toNat < 128
    ·
      repeat (first | refine Run.seq ?_ | refine Run.skip ?_ | refine Run.block ?_)
      refine Run.draw mixed rfl ?_
      refine D.move rfl rfl ?_
      refine D.lenLst hE T27 rfl rfl rfl newest_pv rfl ?_; dsimp only
      first | refine D.cmp rfl rfl rfl (by first | exact decide_eq_true (by omega) | exact decide_eq_false (by omega)) rfl ?_ | refine D.cmp rfl rfl rfl rfl rfl ?_
      refine D.move rfl rfl ?_
      first | (refine D.yes rfl rfl (by first | rfl | assumption) ?_; refine D.move rfl rfl ?_) | refine D.no rfl rfl rfl rfl ?_
      first | (refine D.yes rfl rfl (by first | rfl | assumption) ?_; refine D.index hE T27 rfl T5 rfl rfl (by first | exact newest_pv | exact newest_gl rfl rfl | trivial) rfl (by omega) (by first | assumption | rfl) rfl rfl rfl ?_) | refine D.no rfl rfl rfl rfl ?_
      first | (refine D.yes rfl rfl (by first | rfl | assumption) ?_; first | refine D.loadS hE T5 rfl rfl rfl (by rfl) rfl ?_ | refine D.loadE hE T5 rfl rfl (by rfl) rfl ?_ | refine D.load hE T5 rfl rfl rfl rfl ?_) | refine D.no rfl rfl rfl rfl ?_
      first | (refine D.yes rfl rfl (by first | rfl | assumption) ?_; refine D.field hE L95 rfl rfl rfl rfl ?_) | refine D.no rfl rfl rfl rfl ?_
      first | (refine D.yes rfl rfl (by first | rfl | assumption) ?_; first | refine D.loadS hE T5 rfl rfl rfl (by rfl) rfl ?_ | refine D.loadE hE T5 rfl rfl (by rfl) rfl ?_ | refine D.load hE T5 rfl rfl rfl rfl ?_) | refine D.no rfl rfl rfl rfl ?_
      first | (refine D.yes rfl rfl (by first | rfl | assumption) ?_; first | refine D.cmp rfl rfl rfl (by first | exact decide_eq_true (by omega) | exact decide_eq_false (by omega)) rfl ?_ | refine D.cmp rfl rfl rfl rfl rfl ?_) | refine D.no rfl rfl rfl rfl ?_
      refine D.pick rfl rfl rfl rfl rfl ?_
      refine D.move rfl rfl ?_
      first | (refine D.yes rfl rfl (by first | rfl | assumption) ?_; refine D.field hE L95 rfl rfl rfl rfl ?_) | refine D.no rfl rfl rfl rfl ?_
      first | (refine D.yes rfl rfl (by first | rfl | assumption) ?_; first | refine D.loadS hE T5 rfl rfl rfl (by rfl) rfl ?_ | refine D.loadE hE T5 rfl rfl (by rfl) rfl ?_ | refine D.load hE T5 rfl rfl rfl rfl ?_) | refine D.no rfl rfl rfl rfl ?_
      first | (refine D.yes rfl rfl (by first | rfl | assumption) ?_; refine D.move rfl rfl ?_) | refine D.no rfl rfl rfl rfl ?_
      first | (refine D.yes rfl rfl (by first | rfl | assumption) ?_; refine D.index hE T27 rfl T5 rfl rfl (by first | exact newest_pv | exact newest_gl rfl rfl | trivial) rfl (by omega) (by first | assumption | rfl) rfl rfl rfl ?_) | refine D.no rfl rfl rfl rfl ?_
      first | (refine D.yes rfl rfl (by first | rfl | assumption) ?_; first | refine D.loadS hE T5 rfl rfl rfl (by rfl) rfl ?_ | refine D.loadE hE T5 rfl rfl (by rfl) rfl ?_ | refine D.load hE T5 rfl rfl rfl rfl ?_) | refine D.no rfl rfl rfl rfl ?_
      first | (refine D.yes rfl rfl (by first | rfl | assumption) ?_; first | refine D.cmp rfl rfl rfl (by first | exact decide_eq_true (by omega) | exact decide_eq_false (by omega)) rfl ?_ | refine D.cmp rfl rfl rfl rfl rfl ?_) | refine D.no rfl rfl rfl rfl ?_
      refine D.pick rfl rfl rfl rfl rfl ?_
      refine D.move rfl rfl ?_
      first | (refine D.yes rfl rfl (by first | rfl | assumption) ?_; refine D.move rfl rfl ?_) | refine D.no rfl rfl rfl rfl ?_
      first | (refine D.yes rfl rfl (by first | rfl | assumption) ?_; refine D.index hE T27 rfl T5 rfl rfl (by first | exact newest_pv | exact newest_gl rfl rfl | trivial) rfl (by omega) (by first | assumption | rfl) rfl rfl rfl ?_) | refine D.no rfl rfl rfl rfl ?_
      first | (refine D.yes rfl rfl (by first | rfl | assumption) ?_; first | refine D.loadS hE T5 rfl rfl rfl (by rfl) rfl ?_ | refine D.loadE hE T5 rfl rfl (by rfl) rfl ?_ | refine D.load hE T5 rfl rfl rfl rfl ?_) | refine D.no rfl rfl rfl rfl ?_
      first | (refine D.yes rfl rfl (by first | rfl | assumption) ?_; first | refine D.cmp rfl rfl rfl (by first | exact decide_eq_true (by omega) | exact decide_eq_false (by omega)) rfl ?_ | refine D.cmp rfl rfl rfl rfl rfl ?_) | refine D.no rfl rfl rfl rfl ?_
      refine D.pick rfl rfl rfl rfl rfl ?_
      refine D.move rfl rfl ?_
      first | (refine D.yes rfl rfl (by first | rfl | assumption) ?_; refine D.move rfl rfl ?_) | refine D.no rfl rfl rfl rfl ?_
      first | (refine D.yes rfl rfl (by first | rfl | assumption) ?_; refine D.index hE T27 rfl T5 rfl rfl (by first | exact newest_pv | exact newest_gl rfl rfl | trivial) rfl (by omega) (by first | assumption | rfl) rfl rfl rfl ?_) | refine D.no rfl rfl rfl rfl ?_
      first | (refine D.yes rfl rfl (by first | rfl | assumption) ?_; first | refine D.loadS hE T5 rfl rfl rfl (by rfl) rfl ?_ | refine D.loadE hE T5 rfl rfl (by rfl) rfl ?_ | refine D.load hE T5 rfl rfl rfl rfl ?_) | refine D.no rfl rfl rfl rfl ?_
      first | (refine D.yes rfl rfl (by first | rfl | assumption) ?_; first | refine D.cmp rfl rfl rfl (by first | exact decide_eq_true (by omega) | exact decide_eq_false (by omega)) rfl ?_ | refine D.cmp rfl rfl rfl rfl rfl ?_) | refine D.no rfl rfl rfl rfl ?_
      refine D.pick rfl rfl rfl rfl rfl ?_
      refine Dr.nil ?_
      refine ⟨rfl, ?_⟩
      try refine Run.keep [0, 2, 3, 4, 5, 6, 15, 20, 31, 46, 69, 82, 83, 103, 106, 138, 141, 185] rfl rfl ?_
      repeat (first | refine Run.seq ?_ | refine Run.skip ?_)
      first | refine Run.condT rfl rfl ?_ | refine Run.condF rfl rfl ?_ | refine Run.condT rfl (by assumption) ?_ | refine Run.condF rfl (by assumption) ?_
      rw [if_pos (by omega)] at hlead
      subst hlead
      repeat (first | refine Run.seq ?_ | refine Run.skip ?_ | refine Run.block ?_)
      refine Run.region ?_
      refine O.assign rfl rfl ?_
      refine O.nil ?_
      try refine Run.keep [0, 2, 3, 4, 5, 6, 15, 20, 31, 46, 69, 82, 83, 103, 106, 138, 141, 185] rfl rfl ?_
      refine Run.ret ?_
      repeat (first | refine thenR_ret ?_ | refine roundR_ret ?_ | refine blockR_ret ?_)
      exact Ends.flat hE (.inr rfl) rfl rfl (AVle.of_eq rfl) rfl
    by_cases n4 : 191 < x2.toNat
    ·
      repeat (first | refine Run.seq ?_ | refine Run.skip ?_ | refine Run.block ?_)
      refine Run.draw mixed rfl ?_
      refine D.move rfl rfl ?_
      refine D.lenLst hE T27 rfl rfl rfl newest_pv rfl ?_; dsimp only
      first | refine D.cmp rfl rfl rfl (by first | exact decide_eq_true (by omega) | exact decide_eq_false (by omega)) rfl ?_ | refine D.cmp rfl rfl rfl rfl rfl ?_
      refine D.move rfl rfl ?_
      first | (refine D.yes rfl rfl (by first | rfl | assumption) ?_; refine D.move rfl rfl ?_) | refine D.no rfl rfl rfl rfl ?_
      first | (refine D.yes rfl rfl (by first | rfl | assumption) ?_; refine D.index hE T27 rfl T5 rfl rfl (by first | exact newest_pv | exact newest_gl rfl rfl | trivial) rfl (by omega) (by first | assumption | rfl) rfl rfl rfl ?_) | refine D.no rfl rfl rfl rfl ?_
      first | (refine D.yes rfl rfl (by first | rfl | assumption) ?_; first | refine D.loadS hE T5 rfl rfl rfl (by rfl) rfl ?_ | refine D.loadE hE T5 rfl rfl (by rfl) rfl ?_ | refine D.load hE T5 rfl rfl rfl rfl ?_) | refine D.no rfl rfl rfl rfl ?_
      first | (refine D.yes rfl rfl (by first | rfl | assumption) ?_; refine D.field hE L95 rfl rfl rfl rfl ?_) | refine D.no rfl rfl rfl rfl ?_
      first | (refine D.yes rfl rfl (by first | rfl | assumption) ?_; first | refine D.loadS hE T5 rfl rfl rfl (by rfl) rfl ?_ | refine D.loadE hE T5 rfl rfl (by rfl) rfl ?_ | refine D.load hE T5 rfl rfl rfl rfl ?_) | refine D.no rfl rfl rfl rfl ?_
      first | (refine D.yes rfl rfl (by first | rfl | assumption) ?_; first | refine D.cmp rfl rfl rfl (by first | exact decide_eq_true (by omega) | exact decide_eq_false (by omega)) rfl ?_ | refine D.cmp rfl rfl rfl rfl rfl ?_) | refine D.no rfl rfl rfl rfl ?_
      refine D.pick rfl rfl rfl rfl rfl ?_
      refine D.move rfl rfl ?_
      first | (refine D.yes rfl rfl (by first | rfl | assumption) ?_; refine D.field hE L95 rfl rfl rfl rfl ?_) | refine D.no rfl rfl rfl rfl ?_
      first | (refine D.yes rfl rfl (by first | rfl | assumption) ?_; first | refine D.loadS hE T5 rfl rfl rfl (by rfl) rfl ?_ | refine D.loadE hE T5 rfl rfl (by rfl) rfl ?_ | refine D.load hE T5 rfl rfl rfl rfl ?_) | refine D.no rfl rfl rfl rfl ?_
      first | (refine D.yes rfl rfl (by first | rfl | assumption) ?_; refine D.move rfl rfl ?_) | refine D.no rfl rfl rfl rfl ?_
      first | (refine D.yes rfl rfl (by first | rfl | assumption) ?_; refine D.index hE T27 rfl T5 rfl rfl (by first | exact newest_pv | exact newest_gl rfl rfl | trivial) rfl (by omega) (by first | assumption | rfl) rfl rfl rfl ?_) | refine D.no rfl rfl rfl rfl ?_
      first | (refine D.yes rfl rfl (by first | rfl | assumption) ?_; first | refine D.loadS hE T5 rfl rfl rfl (by rfl) rfl ?_ | refine D.loadE hE T5 rfl rfl (by rfl) rfl ?_ | refine D.load hE T5 rfl rfl rfl rfl ?_) | refine D.no rfl rfl rfl rfl ?_
      first | (refine D.yes rfl rfl (by first | rfl | assumption) ?_; first | refine D.cmp rfl rfl rfl (by first | exact decide_eq_true (by omega) | exact decide_eq_false (by omega)) rfl ?_ | refine D.cmp rfl rfl rfl rfl rfl ?_) | refine D.no rfl rfl rfl rfl ?_
      refine D.pick rfl rfl rfl rfl rfl ?_
      refine D.move rfl rfl ?_
      first | (refine D.yes rfl rfl (by first | rfl | assumption) ?_; refine D.move rfl rfl ?_) | refine D.no rfl rfl rfl rfl ?_
      first | (refine D.yes rfl rfl (by first | rfl | assumption) ?_; refine D.index hE T27 rfl T5 rfl rfl (by first | exact newest_pv | exact newest_gl rfl rfl | trivial) rfl (by omega) (by first | assumption | rfl) rfl rfl rfl ?_) | refine D.no rfl rfl rfl rfl ?_
      first | (refine D.yes rfl rfl (by first | rfl | assumption) ?_; first | refine D.loadS hE T5 rfl rfl rfl (by rfl) rfl ?_ | refine D.loadE hE T5 rfl rfl (by rfl) rfl ?_ | refine D.load hE T5 rfl rfl rfl rfl ?_) | refine D.no rfl rfl rfl rfl ?_
      first | (refine D.yes rfl rfl (by first | rfl | assumption) ?_; first | refine D.cmp rfl rfl rfl (by first | exact decide_eq_true (by omega) | exact decide_eq_false (by omega)) rfl ?_ | refine D.cmp rfl rfl rfl rfl rfl ?_) | refine D.no rfl rfl rfl rfl ?_
      refine D.pick rfl rfl rfl rfl rfl ?_
      refine D.move rfl rfl ?_
      first | (refine D.yes rfl rfl (by first | rfl | assumption) ?_; refine D.move rfl rfl ?_) | refine D.no rfl rfl rfl rfl ?_
      first | (refine D.yes rfl rfl (by first | rfl | assumption) ?_; refine D.index hE T27 rfl T5 rfl rfl (by first | exact newest_pv | exact newest_gl rfl rfl | trivial) rfl (by omega) (by first | assumption | rfl) rfl rfl rfl ?_) | refine D.no rfl rfl rfl rfl ?_
      first | (refine D.yes rfl rfl (by first | rfl | assumption) ?_; first | refine D.loadS hE T5 rfl rfl rfl (by rfl) rfl ?_ | refine D.loadE hE T5 rfl rfl (by rfl) rfl ?_ | refine D.load hE T5 rfl rfl rfl rfl ?_) | refine D.no rfl rfl rfl rfl ?_
      first | (refine D.yes rfl rfl (by first | rfl | assumption) ?_; first | refine D.cmp rfl rfl rfl (by first | exact decide_eq_true (by omega) | exact decide_eq_false (by omega)) rfl ?_ | refine D.cmp rfl rfl rfl rfl rfl ?_) | refine D.no rfl rfl rfl rfl ?_
      refine D.pick rfl rfl rfl rfl rfl ?_
      refine Dr.nil ?_
      refine ⟨rfl, ?_⟩
      try refine Run.keep [0, 2, 3, 4, 5, 6, 15, 20, 31, 46, 69, 82, 83, 103, 106, 138, 141, 185] rfl rfl ?_
      repeat (first | refine Run.seq ?_ | refine Run.skip ?_)
      first | refine Run.condT rfl rfl ?_ | refine Run.condF rfl rfl ?_ | refine Run.condT rfl (by assumption) ?_ | refine Run.condF rfl (by assumption) ?_
      rw [if_pos (by omega)] at hlead
      subst hlead
      repeat (first | refine Run.seq ?_ | refine Run.skip ?_ | refine Run.block ?_)
      refine Run.region ?_
      refine O.assign rfl rfl ?_
      refine O.nil ?_
      try refine Run.keep [0, 2, 3, 4, 5, 6, 15, 20, 31, 46, 69, 82, 83, 103, 106, 138, 141, 185] rfl rfl ?_
      refine Run.ret ?_
      repeat (first | refine thenR_ret ?_ | refine roundR_ret ?_ | refine blockR_ret ?_)
      exact Ends.flat hE (.inr rfl) rfl rfl (AVle.of_eq rfl) rfl
    repeat (first | refine Run.seq ?_ | refine Run.skip ?_ | refine Run.block ?_)
    refine Run.draw mixed rfl ?_
    refine D.move rfl rfl ?_
    refine D.lenLst hE T27 rfl rfl rfl newest_pv rfl ?_; dsimp only
    first | refine D.cmp rfl rfl rfl (by first | exact decide_eq_true (by omega) | exact decide_eq_false (by omega)) rfl ?_ | refine D.cmp rfl rfl rfl rfl rfl ?_
    refine D.move rfl rfl ?_
    first | (refine D.yes rfl rfl (by first | rfl | assumption) ?_; refine D.move rfl rfl ?_) | refine D.no rfl rfl rfl rfl ?_
    first | (refine D.yes rfl rfl (by first | rfl | assumption) ?_; refine D.index hE T27 rfl T5 rfl rfl (by first | exact newest_pv | exact newest_gl rfl rfl | trivial) rfl (by omega) (by first | assumption | rfl) rfl rfl rfl ?_) | refine D.no rfl rfl rfl rfl ?_
    first | (refine D.yes rfl rfl (by first | rfl | assumption) ?_; first | refine D.loadS hE T5 rfl rfl rfl (by rfl) rfl ?_ | refine D.loadE hE T5 rfl rfl (by rfl) rfl ?_ | refine D.load hE T5 rfl rfl rfl rfl ?_) | refine D.no rfl rfl rfl rfl ?_
    first | (refine D.yes rfl rfl (by first | rfl | assumption) ?_; refine D.field hE L95 rfl rfl rfl rfl ?_) | refine D.no rfl rfl rfl rfl ?_
    first | (refine D.yes rfl rfl (by first | rfl | assumption) ?_; first | refine D.loadS hE T5 rfl rfl rfl (by rfl) rfl ?_ | refine D.loadE hE T5 rfl rfl (by rfl) rfl ?_ | refine D.load hE T5 rfl rfl rfl rfl ?_) | refine D.no rfl rfl rfl rfl ?_
    first | (refine D.yes rfl rfl (by first | rfl | assumption) ?_; first | refine D.cmp rfl rfl rfl (by first | exact decide_eq_true (by omega) | exact decide_eq_false (by omega)) rfl ?_ | refine D.cmp rfl rfl rfl rfl rfl ?_) | refine D.no rfl rfl rfl rfl ?_
    refine D.pick rfl rfl rfl rfl rfl ?_
    refine D.move rfl rfl ?_
    first | (refine D.yes rfl rfl (by first | rfl | assumption) ?_; refine D.field hE L95 rfl rfl rfl rfl ?_) | refine D.no rfl rfl rfl rfl ?_
    first | (refine D.yes rfl rfl (by first | rfl | assumption) ?_; first | refine D.loadS hE T5 rfl rfl rfl (by rfl) rfl ?_ | refine D.loadE hE T5 rfl rfl (by rfl) rfl ?_ | refine D.load hE T5 rfl rfl rfl rfl ?_) | refine D.no rfl rfl rfl rfl ?_
    first | (refine D.yes rfl rfl (by first | rfl | assumption) ?_; refine D.move rfl rfl ?_) | refine D.no rfl rfl rfl rfl ?_
    first | (refine D.yes rfl rfl (by first | rfl | assumption) ?_; refine D.index hE T27 rfl T5 rfl rfl (by first | exact newest_pv | exact newest_gl rfl rfl | trivial) rfl (by omega) (by first | assumption | rfl) rfl rfl rfl ?_) | refine D.no rfl rfl rfl rfl ?_
    first | (refine D.yes rfl rfl (by first | rfl | assumption) ?_; first | refine D.loadS hE T5 rfl rfl rfl (by rfl) rfl ?_ | refine D.loadE hE T5 rfl rfl (by rfl) rfl ?_ | refine D.load hE T5 rfl rfl rfl rfl ?_) | refine D.no rfl rfl rfl rfl ?_
    first | (refine D.yes rfl rfl (by first | rfl | assumption) ?_; first | refine D.cmp rfl rfl rfl (by first | exact decide_eq_true (by omega) | exact decide_eq_false (by omega)) rfl ?_ | refine D.cmp rfl rfl rfl rfl rfl ?_) | refine D.no rfl rfl rfl rfl ?_
    refine D.pick rfl rfl rfl rfl rfl ?_
    refine D.move rfl rfl ?_
    first | (refine D.yes rfl rfl (by first | rfl | assumption) ?_; refine D.move rfl rfl ?_) | refine D.no rfl rfl rfl rfl ?_
    first | (refine D.yes rfl rfl (by first | rfl | assumption) ?_; refine D.index hE T27 rfl T5 rfl rfl (by first | exact newest_pv | exact newest_gl rfl rfl | trivial) rfl (by omega) (by first | assumption | rfl) rfl rfl rfl ?_) | refine D.no rfl rfl rfl rfl ?_
    first | (refine D.yes rfl rfl (by first | rfl | assumption) ?_; first | refine D.loadS hE T5 rfl rfl rfl (by rfl) rfl ?_ | refine D.loadE hE T5 rfl rfl (by rfl) rfl ?_ | refine D.load hE T5 rfl rfl rfl rfl ?_) | refine D.no rfl rfl rfl rfl ?_
    first | (refine D.yes rfl rfl (by first | rfl | assumption) ?_; first | refine D.cmp rfl rfl rfl (by first | exact decide_eq_true (by omega) | exact decide_eq_false (by omega)) rfl ?_ | refine D.cmp rfl rfl rfl rfl rfl ?_) | refine D.no rfl rfl rfl rfl ?_
    refine D.pick rfl rfl rfl rfl rfl ?_
    refine D.move rfl rfl ?_
    first | (refine D.yes rfl rfl (by first | rfl | assumption) ?_; refine D.move rfl rfl ?_) | refine D.no rfl rfl rfl rfl ?_
    first | (refine D.yes rfl rfl (by first | rfl | assumption) ?_; refine D.index hE T27 rfl T5 rfl rfl (by first | exact newest_pv | exact newest_gl rfl rfl | trivial) rfl (by omega) (by first | assumption | rfl) rfl rfl rfl ?_) | refine D.no rfl rfl rfl rfl ?_
    first | (refine D.yes rfl rfl (by first | rfl | assumption) ?_; first | refine D.loadS hE T5 rfl rfl rfl (by rfl) rfl ?_ | refine D.loadE hE T5 rfl rfl (by rfl) rfl ?_ | refine D.load hE T5 rfl rfl rfl rfl ?_) | refine D.no rfl rfl rfl rfl ?_
    first | (refine D.yes rfl rfl (by first | rfl | assumption) ?_; first | refine D.cmp rfl rfl rfl (by first | exact decide_eq_true (by omega) | exact decide_eq_false (by omega)) rfl ?_ | refine D.cmp rfl rfl rfl rfl rfl ?_) | refine D.no rfl rfl rfl rfl ?_
    refine D.pick rfl rfl rfl rfl rfl ?_
    refine Dr.nil ?_
    refine ⟨rfl, ?_⟩
    try refine Run.keep [0, 2, 3, 4, 5, 6, 15, 20, 31, 46, 69, 82, 83, 103, 106, 138, 141, 185] rfl rfl ?_
    repeat (first | refine Run.seq ?_ | refine Run.skip ?_)
    first | refine Run.condT rfl rfl ?_ | refine Run.condF rfl rfl ?_ | refine Run.condT rfl (by assumption) ?_ | refine Run.condF rfl (by assumption) ?_
    rw [if_neg (by omega)] at hlead
    have hyk := tb_drop t 3
    have lk : (t.drop 3).length = t.length - 3 := List.length_drop
    dsimp only at hlead
    repeat (first | refine Run.seq ?_ | refine Run.skip ?_ | refine Run.block ?_)
    refine Run.region ?_
    refine O.move rfl rfl ?_
    refine O.slice hE T27 rfl T5 rfl rfl newest_pv rfl rfl rfl (by omega) (by rw [hm]; omega) (by omega) hyk rfl ?_
    refine O.assign rfl rfl ?_
    refine O.nil ?_
    try refine Run.keep [0, 2, 3, 4, 5, 6, 15, 20, 31, 46, 69, 82, 83, 103, 106, 138, 141, 185] rfl rfl ?_
    exact ih (t.drop 3) _ (SLe.drop (by repeat (first | exact TmIn.nil | refine TmIn.cons rfl ?_)) (by repeat (first | exact BxIn.nil | refine BxIn.cons rfl ?_)) rfl rfl) ⟨hlead.symm, by omega⟩ (by omega)
  rw [if_neg s3] at hlead
  by_cases s4 : SZ = 4
  ·
    subst s4
    rw [if_pos rfl] at hlead
    repeat (first | refine Run.seq ?_ | refine Run.skip ?_ | refine Run.block ?_)
    refine Run.region ?_
    first | refine O.cmp rfl rfl rfl (by first | exact decide_eq_true (by omega) | exact decide_eq_false (by omega)) rfl ?_ | refine O.cmp rfl rfl rfl rfl rfl ?_
    refine O.assign rfl rfl ?_
    refine O.nil ?_
    try refine Run.keep [0, 2, 3, 4, 5, 6, 15, 20, 31, 46, 69, 82, 83, 103, 106, 138, 141, 185] rfl rfl ?_
    repeat (first | refine Run.seq ?_ | refine Run.skip ?_)
    first | refine Run.condT rfl rfl ?_ | refine Run.condF rfl rfl ?_ | refine Run.condT rfl (by assumption) ?_ | refine Run.condF rfl (by assumption) ?_
    repeat (first | refine Run.seq ?_ | refine Run.skip ?_ | refine Run.block ?_)
    refine Run.region ?_
    first | refine O.cmp rfl rfl rfl (by first | exact decide_eq_true (by omega) | exact decide_eq_false (by omega)) rfl ?_ | refine O.cmp rfl rfl rfl rfl rfl ?_
    refine O.assign rfl rfl ?_
    refine O.nil ?_
    try refine Run.keep [0, 2, 3, 4, 5, 6, 15, 20, 31, 46, 69, 82, 83, 103, 106, 138, 141, 185] rfl rfl ?_
    repeat (first | refine Run.seq ?_ | refine Run.skip ?_)
    first | refine Run.condT rfl rfl ?_ | refine Run.condF rfl rfl ?_ | refine Run.condT rfl (by assumption) ?_ | refine Run.condF rfl (by assumption) ?_
    repeat (first | refine Run.seq ?_ | refine Run.skip ?_ | refine Run.block ?_)
    refine Run.region ?_
    first | refine O.cmp rfl rfl rfl (by first | exact decide_eq_true (by omega) | exact decide_eq_false (by omega)) rfl ?_ | refine O.cmp rfl rfl rfl rfl rfl ?_
    refine O.assign rfl rfl ?_
    refine O.nil ?_
    try refine Run.keep [0, 2, 3, 4, 5, 6, 15, 20, 31, 46, 69, 82, 83, 103, 106, 138, 141, 185] rfl rfl ?_
    repeat (first | refine Run.seq ?_ | refine Run.skip ?_)
    first | refine Run.condT rfl rfl ?_ | refine Run.condF rfl rfl ?_ | refine Run.condT rfl (by assumption) ?_ | refine Run.condF rfl (by assumption) ?_
    by_cases n0 : t.length < 4
    ·
      repeat (first | refine Run.seq ?_ | refine Run.skip ?_ | refine Run.block ?_)
      refine Run.draw mixed rfl ?_
      refine D.move rfl rfl ?_
      refine D.lenLst hE T27 rfl rfl rfl newest_pv rfl ?_; dsimp only
      first | refine D.cmp rfl rfl rfl (by first | exact decide_eq_true (by omega) | exact decide_eq_false (by omega)) rfl ?_ | refine D.cmp rfl rfl rfl rfl rfl ?_
      refine D.move rfl rfl ?_
      first | (refine D.yes rfl rfl (by first | rfl | assumption) ?_; refine D.move rfl rfl ?_) | refine D.no rfl rfl rfl rfl ?_
      first | (refine D.yes rfl rfl (by first | rfl | assumption) ?_; refine D.index hE T27 rfl T5 rfl rfl (by first | exact newest_pv | exact newest_gl rfl rfl | trivial) rfl (by omega) (by first | assumption | rfl) rfl rfl rfl ?_) | refine D.no rfl rfl rfl rfl ?_
      first | (refine D.yes rfl rfl (by first | rfl | assumption) ?_; first | refine D.loadS hE T5 rfl rfl rfl (by rfl) rfl ?_ | refine D.loadE hE T5 rfl rfl (by rfl) rfl ?_ | refine D.load hE T5 rfl rfl rfl rfl ?_) | refine D.no rfl rfl rfl rfl ?_
      first | (refine D.yes rfl rfl (by first | rfl | assumption) ?_; refine D.field hE L95 rfl rfl rfl rfl ?_) | refine D.no rfl rfl rfl rfl ?_
      first | (refine D.yes rfl rfl (by first | rfl | assumption) ?_; first | refine D.loadS hE T5 rfl rfl rfl (by rfl) rfl ?_ | refine D.loadE hE T5 rfl rfl (by rfl) rfl ?_ | refine D.load hE T5 rfl rfl rfl rfl ?_) | refine D.no rfl rfl rfl rfl ?_
      first | (refine D.yes rfl rfl (by first | rfl | assumption) ?_; first | refine D.cmp rfl rfl rfl (by first | exact decide_eq_true (by omega) | exact decide_eq_false (by omega)) rfl ?_ | refine D.cmp rfl rfl rfl rfl rfl ?_) | refine D.no rfl rfl rfl rfl ?_
      refine D.pick rfl rfl rfl rfl rfl ?_
      refine D.move rfl rfl ?_
      first | (refine D.yes rfl rfl (by first | rfl | assumption) ?_; refine D.field hE L95 rfl rfl rfl rfl ?_) | refine D.no rfl rfl rfl rfl ?_
      first | (refine D.yes rfl rfl (by first | rfl | assumption) ?_; first | refine D.loadS hE T5 rfl rfl rfl (by rfl) rfl ?_ | refine D.loadE hE T5 rfl rfl (by rfl) rfl ?_ | refine D.load hE T5 rfl rfl rfl rfl ?_) | refine D.no rfl rfl rfl rfl ?_
      first | (refine D.yes rfl rfl (by first | rfl | assumption) ?_; refine D.move rfl rfl ?_) | refine D.no rfl rfl rfl rfl ?_
      first | (refine D.yes rfl rfl (by first | rfl | assumption) ?_; refine D.index hE T27 rfl T5 rfl rfl (by first | exact newest_pv | exact newest_gl rfl rfl | trivial) rfl (by omega) (by first | assumption | rfl) rfl rfl rfl ?_) | refine D.no rfl rfl rfl rfl ?_
      first | (refine D.yes rfl rfl (by first | rfl | assumption) ?_; first | refine D.loadS hE T5 rfl rfl rfl (by rfl) rfl ?_ | refine D.loadE hE T5 rfl rfl (by rfl) rfl ?_ | refine D.load hE T5 rfl rfl rfl rfl ?_) | refine D.no rfl rfl rfl rfl ?_
      first | (refine D.yes rfl rfl (by first | rfl | assumption) ?_; first | refine D.cmp rfl rfl rfl (by first | exact decide_eq_true (by omega) | exact decide_eq_false (by omega)) rfl ?_ | refine D.cmp rfl rfl rfl rfl rfl ?_) | refine D.no rfl rfl rfl rfl ?_
      refine D.pick rfl rfl rfl rfl rfl ?_
      refine D.move rfl rfl ?_
      first | (refine D.yes rfl rfl (by first | rfl | assumption) ?_; refine D.move rfl rfl ?_) | refine D.no rfl rfl rfl rfl ?_
      first | (refine D.yes rfl rfl (by first | rfl | assumption) ?_; refine D.index hE T27 rfl T5 rfl rfl (by first | exact newest_pv | exact newest_gl rfl rfl | trivial) rfl (by omega) (by first | assumption | rfl) rfl rfl rfl ?_) | refine D.no rfl rfl rfl rfl ?_
      first | (refine D.yes rfl rfl (by first | rfl | assumption) ?_; first | refine D.loadS hE T5 rfl rfl rfl (by rfl) rfl ?_ | refine D.loadE hE T5 rfl rfl (by rfl) rfl ?_ | refine D.load hE T5 rfl rfl rfl rfl ?_) | refine D.no rfl rfl rfl rfl ?_
      first | (refine D.yes rfl rfl (by first | rfl | assumption) ?_; first | refine D.cmp rfl rfl rfl (by first | exact decide_eq_true (by omega) | exact decide_eq_false (by omega)) rfl ?_ | refine D.cmp rfl rfl rfl rfl rfl ?_) | refine D.no rfl rfl rfl rfl ?_
      refine D.pick rfl rfl rfl rfl rfl ?_
      refine D.move rfl rfl ?_
      first | (refine D.yes rfl rfl (by first | rfl | assumption) ?_; refine D.move rfl rfl ?_) | refine D.no rfl rfl rfl rfl ?_
      first | (refine D.yes rfl rfl (by first | rfl | assumption) ?_; refine D.index hE T27 rfl T5 rfl rfl (by first | exact newest_pv | exact newest_gl rfl rfl | trivial) rfl (by omega) (by first | assumption | rfl) rfl rfl rfl ?_) | refine D.no rfl rfl rfl rfl ?_
      first | (refine D.yes rfl rfl (by first | rfl | assumption) ?_; first | refine D.loadS hE T5 rfl rfl rfl (by rfl) rfl ?_ | refine D.loadE hE T5 rfl rfl (by rfl) rfl ?_ | refine D.load hE T5 rfl rfl rfl rfl ?_) | refine D.no rfl rfl rfl rfl ?_
      first | (refine D.yes rfl rfl (by first | rfl | assumption) ?_; first | refine D.cmp rfl rfl rfl (by first | exact decide_eq_true (by omega) | exact decide_eq_false (by omega)) rfl ?_ | refine D.cmp rfl rfl rfl rfl rfl ?_) | refine D.no rfl rfl rfl rfl ?_
      refine D.pick rfl rfl rfl rfl rfl ?_
      refine D.move rfl rfl ?_
      first | (refine D.yes rfl rfl (by first | rfl | assumption) ?_; refine D.move rfl rfl ?_) | refine D.no rfl rfl rfl rfl ?_
      first | (refine D.yes rfl rfl (by first | rfl | assumption) ?_; refine D.index hE T27 rfl T5 rfl rfl (by first | exact newest_pv | exact newest_gl rfl rfl | trivial) rfl (by omega) (by first | assumption | rfl) rfl rfl rfl ?_) | refine D.no rfl rfl rfl rfl ?_
      first | (refine D.yes rfl rfl (by first | rfl | assumption) ?_; first | refine D.loadS hE T5 rfl rfl rfl (by rfl) rfl ?_ | refine D.loadE hE T5 rfl rfl (by rfl) rfl ?_ | refine D.load hE T5 rfl rfl rfl rfl ?_) | refine D.no rfl rfl rfl rfl ?_
      first | (refine D.yes rfl rfl (by first | rfl | assumption) ?_; first | refine D.cmp rfl rfl rfl (by first | exact decide_eq_true (by omega) | exact decide_eq_false (by omega)) rfl ?_ | refine D.cmp rfl rfl rfl rfl rfl ?_) | refine D.no rfl rfl rfl rfl ?_
      refine D.pick rfl rfl rfl rfl rfl ?_
      refine D.move rfl rfl ?_
      first | (refine D.yes rfl rfl (by first | rfl | assumption) ?_; refine D.move rfl rfl ?_) | refine D.no rfl rfl rfl rfl ?_
      first | (refine D.yes rfl rfl (by first | rfl | assumption) ?_; refine D.index hE T27 rfl T5 rfl rfl (by first | exact newest_pv | exact newest_gl rfl rfl | trivial) rfl (by omega) (by first | assumption | rfl) rfl rfl rfl ?_) | refine D.no rfl rfl rfl rfl ?_
      first | (refine D.yes rfl rfl (by first | rfl | assumption) ?_; first | refine D.loadS hE T5 rfl rfl rfl (by rfl) rfl ?_ | refine D.loadE hE T5 rfl rfl (by rfl) rfl ?_ | refine D.load hE T5 rfl rfl rfl rfl ?_) | refine D.no rfl rfl rfl rfl ?_
      first | (refine D.yes rfl rfl (by first | rfl | assumption) ?_; first | refine D.cmp rfl rfl rfl (by first | exact decide_eq_true (by omega) | exact decide_eq_false (by omega)) rfl ?_ | refine D.cmp rfl rfl rfl rfl rfl ?_) | refine D.no rfl rfl rfl rfl ?_
      refine D.pick rfl rfl rfl rfl rfl ?_
      refine Dr.nil ?_
      refine ⟨rfl, ?_⟩
      try refine Run.keep [0, 2, 3, 4, 5, 6, 15, 20, 31, 46, 69, 82, 83, 103, 106, 138, 141, 185] rfl rfl ?_
      repeat (first | refine Run.seq ?_ | refine Run.skip ?_)
      first | refine Run.condT rfl rfl ?_ | refine Run.condF rfl rfl ?_ | refine Run.condT rfl (by assumption) ?_ | refine Run.condF rfl (by assumption) ?_
      rw [if_pos (by omega)] at hlead
      subst hlead
      repeat (first | refine Run.seq ?_ | refine Run.skip ?_ | refine Run.block ?_)
      refine Run.region ?_
      refine O.assign rfl rfl ?_
      refine O.nil ?_
      try refine Run.keep [0, 2, 3, 4, 5, 6, 15, 20, 31, 46, 69, 82, 83, 103, 106, 138, 141, 185] rfl rfl ?_
      refine Run.ret ?_
      repeat (first | refine thenR_ret ?_ | refine roundR_ret ?_ | refine blockR_ret ?_)
      exact Ends.flat hE (.inr rfl) rfl rfl (AVle.of_eq rfl) rfl
    obtain ⟨x1, hx1⟩ : ∃ x1, t[1]? = some x1 := ⟨_, List.getElem?_eq_getElem (by omega)⟩
    have hg1 : t.getD 1 0 = x1 := by rw [List.getD_eq_getElem?_getD, hx1]; rfl
    have hat1 : ((tb t).map (PV.int .u8))[(1 : Int).toNat]? = some (.int .u8 ((x1.toNat : Nat) : Int)) := tb_at hx1
    rw [hg1] at hlead
    have hx1l : x1.toNat < 256 := x1.toNat_lt
    obtain ⟨x2, hx2⟩ : ∃ x2, t[2]? = some x2 := ⟨_, List.getElem?_eq_getElem (by omega)⟩
    have hg2 : t.getD 2 0 = x2 := by rw [List.getD_eq_getElem?_getD, hx2]; rfl
    have hat2 : ((tb t).map (PV.int .u8))[(2 : Int).toNat]? = some (.int .u8 ((x2.toNat : Nat) : Int)) := tb_at hx2
    rw [hg2] at hlead
    have hx2l : x2.toNat < 256 := x2.toNat_lt
    obtain ⟨x3, hx3⟩ : ∃ x3, t[3]? = some x3 := ⟨_, List.getElem?_eq_getElem (by omega)⟩
    have hg3 : t.getD 3 0 = x3 := by rw [List.getD_eq_getElem?_getD, hx3]; rfl
    have hat3 : ((tb t).map (PV.int .u8))[(3 : Int).toNat]? = some (.int .u8 ((x3.toNat : Nat) : Int)) := tb_at hx3
    rw [hg3] at hlead
    have hx3l : x3.toNat < 256 := x3.toNat_lt
    by_cases n1 : x1.toNat < LO
    ·
      repeat (first | refine Run.seq ?_ | refine Run.skip ?_ | refine Run.block ?_)
      refine Run.draw mixed rfl ?_
      refine D.move rfl rfl ?_
      refine D.lenLst hE T27 rfl rfl rfl newest_pv rfl ?_; dsimp only
      first | refine D.cmp rfl rfl rfl (by first | exact decide_eq_true (by omega) | exact decide_eq_false (by omega)) rfl ?_ | refine D.cmp rfl rfl rfl rfl rfl ?_
      refine D.move rfl rfl ?_
      first | (refine D.yes rfl rfl (by first | rfl | assumption) ?_; refine D.move rfl rfl ?_) | refine D.no rfl rfl rfl rfl ?_
      first | (refine D.yes rfl rfl (by first | rfl | assumption) ?_; refine D.index hE T27 rfl T5 rfl rfl (by first | exact newest_pv | exact newest_gl rfl rfl | trivial) rfl (by omega) (by first | assumption | rfl) rfl rfl rfl ?_) | refine D.no rfl rfl rfl rfl ?_
      first | (refine D.yes rfl rfl (by first | rfl | assumption) ?_; first | refine D.loadS hE T5 rfl rfl rfl (by rfl) rfl ?_ | refine D.loadE hE T5 rfl rfl (by rfl) rfl ?_ | refine D.load hE T5 rfl rfl rfl rfl ?_) | refine D.no rfl rfl rfl rfl ?_
      first | (refine D.yes rfl rfl (by first | rfl | assumption) ?_; refine D.field hE L95 rfl rfl rfl rfl ?_) | refine D.no rfl rfl rfl rfl ?_
      first | (refine D.yes rfl rfl (by first | rfl | assumption) ?_; first | refine D.loadS hE T5 rfl rfl rfl (by rfl) rfl ?_ | refine D.loadE hE T5 rfl rfl (by rfl) rfl ?_ | refine D.load hE T5 rfl rfl rfl rfl ?_) | refine D.no rfl rfl rfl rfl ?_
      first | (refine D.yes rfl rfl (by first | rfl | assumption) ?_; first | refine D.cmp rfl rfl rfl (by first | exact decide_eq_true (by omega) | exact decide_eq_false (by omega)) rfl ?_ | refine D.cmp rfl rfl rfl rfl rfl ?_) | refine D.no rfl rfl rfl rfl ?_
      refine D.pick rfl rfl rfl rfl rfl ?_
      refine D.move rfl rfl ?_
      first | (refine D.yes rfl rfl (by first | rfl | assumption) ?_; refine D.field hE L95 rfl rfl rfl rfl ?_) | refine D.no rfl rfl rfl rfl ?_
      first | (refine D.yes rfl rfl (by first | rfl | assumption) ?_; first | refine D.loadS hE T5 rfl rfl rfl (by rfl) rfl ?_ | refine D.loadE hE T5 rfl rfl (by rfl) rfl ?_ | refine D.load hE T5 rfl rfl rfl rfl ?_) | refine D.no rfl rfl rfl rfl ?_
      first | (refine D.yes rfl rfl (by first | rfl | assumption) ?_; refine D.move rfl rfl ?_) | refine D.no rfl rfl rfl rfl ?_
      first | (refine D.yes rfl rfl (by first | rfl | assumption) ?_; refine D.index hE T27 rfl T5 rfl rfl (by first | exact newest_pv | exact newest_gl rfl rfl | trivial) rfl (by omega) (by first | assumption | rfl) rfl rfl rfl ?_) | refine D.no rfl rfl rfl rfl ?_
      first | (refine D.yes rfl rfl (by first | rfl | assumption) ?_; first | refine D.loadS hE T5 rfl rfl rfl (by rfl) rfl ?_ | refine D.loadE hE T5 rfl rfl (by rfl) rfl ?_ | refine D.load hE T5 rfl rfl rfl rfl ?_) | refine D.no rfl rfl rfl rfl ?_
      first | (refine D.yes rfl rfl (by first | rfl | assumption) ?_; first | refine D.cmp rfl rfl rfl (by first | exact decide_eq_true (by omega) | exact decide_eq_false (by omega)) rfl ?_ | refine D.cmp rfl rfl rfl rfl rfl ?_) | refine D.no rfl rfl rfl rfl ?_
      refine D.pick rfl rfl rfl rfl rfl ?_
      refine D.move rfl rfl ?_
      first | (refine D.yes rfl rfl (by first | rfl | assumption) ?_; refine D.move rfl rfl ?_) | refine D.no rfl rfl rfl rfl ?_
      first | (refine D.yes rfl rfl (by first | rfl | assumption) ?_; refine D.index hE T27 rfl T5 rfl rfl (by first | exact newest_pv | exact newest_gl rfl rfl | trivial) rfl (by omega) (by first | assumption | rfl) rfl rfl rfl ?_) | refine D.no rfl rfl rfl rfl ?_
      first | (refine D.yes rfl rfl (by first | rfl | assumption) ?_; first | refine D.loadS hE T5 rfl rfl rfl (by rfl) rfl ?_ | refine D.loadE hE T5 rfl rfl (by rfl) rfl ?_ | refine D.load hE T5 rfl rfl rfl rfl ?_) | refine D.no rfl rfl rfl rfl ?_
      first | (refine D.yes rfl rfl (by first | rfl | assumption) ?_; first | refine D.cmp rfl rfl rfl (by first | exact decide_eq_true (by omega) | exact decide_eq_false (by omega)) rfl ?_ | refine D.cmp rfl rfl rfl rfl rfl ?_) | refine D.no rfl rfl rfl rfl ?_
      refine D.pick rfl rfl rfl rfl rfl ?_
      refine D.move rfl rfl ?_
      first | (refine D.yes rfl rfl (by first | rfl | assumption) ?_; refine D.move rfl rfl ?_) | refine D.no rfl rfl rfl rfl ?_
      first | (refine D.yes rfl rfl (by first | rfl | assumption) ?_; refine D.index hE T27 rfl T5 rfl rfl (by first | exact newest_pv | exact newest_gl rfl rfl | trivial) rfl (by omega) (by first | assumption | rfl) rfl rfl rfl ?_) | refine D.no rfl rfl rfl rfl ?_
      first | (refine D.yes rfl rfl (by first | rfl | assumption) ?_; first | refine D.loadS hE T5 rfl rfl rfl (by rfl) rfl ?_ | refine D.loadE hE T5 rfl rfl (by rfl) rfl ?_ | refine D.load hE T5 rfl rfl rfl rfl ?_) | refine D.no rfl rfl rfl rfl ?_
      first | (refine D.yes rfl rfl (by first | rfl | assumption) ?_; first | refine D.cmp rfl rfl rfl (by first | exact decide_eq_true (by omega) | exact decide_eq_false (by omega)) rfl ?_ | refine D.cmp rfl rfl rfl rfl rfl ?_) | refine D.no rfl rfl rfl rfl ?_
      refine D.pick rfl rfl rfl rfl rfl ?_
      refine D.move rfl rfl ?_
      first | (refine D.yes rfl rfl (by first | rfl | assumption) ?_; refine D.move rfl rfl ?_) | refine D.no rfl rfl rfl rfl ?_
      first | (refine D.yes rfl rfl (by first | rfl | assumption) ?_; refine D.index hE T27 rfl T5 rfl rfl (by first | exact newest_pv | exact newest_gl rfl rfl | trivial) rfl (by omega) (by first | assumption | rfl) rfl rfl rfl ?_) | refine D.no rfl rfl rfl rfl ?_
      first | (refine D.yes rfl rfl (by first | rfl | assumption) ?_; first | refine D.loadS hE T5 rfl rfl rfl (by rfl) rfl ?_ | refine D.loadE hE T5 rfl rfl (by rfl) rfl ?_ | refine D.load hE T5 rfl rfl rfl rfl ?_) | refine D.no rfl rfl rfl rfl ?_
      first | (refine D.yes rfl rfl (by first | rfl | assumption) ?_; first | refine D.cmp rfl rfl rfl (by first | exact decide_eq_true (by omega) | exact decide_eq_false (by omega)) rfl ?_ | refine D.cmp rfl rfl rfl rfl rfl ?_) | refine D.no rfl rfl rfl rfl ?_
      refine D.pick rfl rfl rfl rfl rfl ?_
      refine D.move rfl rfl ?_
      first | (refine D.yes rfl rfl (by first | rfl | assumption) ?_; refine D.move rfl rfl ?_) | refine D.no rfl rfl rfl rfl ?_
      first | (refine D.yes rfl rfl (by first | rfl | assumption) ?_; refine D.index hE T27 rfl T5 rfl rfl (by first | exact newest_pv | exact newest_gl rfl rfl | trivial) rfl (by omega) (by first | assumption | rfl) rfl rfl rfl ?_) | refine D.no rfl rfl rfl rfl ?_
      first | (refine D.yes rfl rfl (by first | rfl | assumption) ?_; first | refine D.loadS hE T5 rfl rfl rfl (by rfl) rfl ?_ | refine D.loadE hE T5 rfl rfl (by rfl) rfl ?_ | refine D.load hE T5 rfl rfl rfl rfl ?_) | refine D.no rfl rfl rfl rfl ?_
      first | (refine D.yes rfl rfl (by first | rfl | assumption) ?_; first | refine D.cmp rfl rfl rfl (by first | exact decide_eq_true (by omega) | exact decide_eq_false (by omega)) rfl ?_ | refine D.cmp rfl rfl rfl rfl rfl ?_) | refine D.no rfl rfl rfl rfl ?_
      refine D.pick rfl rfl rfl rfl rfl ?_
      refine Dr.nil ?_
      refine ⟨rfl, ?_⟩
      try refine Run.keep [0, 2, 3, 4, 5, 6, 15, 20, 31, 46, 69, 82, 83, 103, 106, 138, 141, 185] rfl rfl ?_
      repeat (first | refine Run.seq ?_ | refine Run.skip ?_)
      first | refine Run.condT rfl rfl ?_ | refine Run.condF rfl rfl ?_ | refine Run.condT rfl (by assumption) ?_ | refine Run.condF rfl (by assumption) ?_
      rw [if_pos (by omega)] at hlead
      subst hlead
      repeat (first | refine Run.seq ?_ | refine Run.skip ?_ | refine Run.block ?_)
      refine Run.region ?_
      refine O.assign rfl rfl ?_
      refine O.nil ?_
      try refine Run.keep [0, 2, 3, 4, 5, 6, 15, 20, 31, 46, 69, 82, 83, 103, 106, 138, 141, 185] rfl rfl ?_
      refine Run.ret ?_
      repeat (first | refine thenR_ret ?_ | refine roundR_ret ?_ | refine blockR_ret ?_)
      exact Ends.flat hE (.inr rfl) rfl rfl (AVle.of_eq rfl) rfl
    by_cases n2 : HI < x1.toNat
    ·
      repeat (first | refine Run.seq ?_ | refine Run.skip ?_ | refine Run.block ?_)
      refine Run.draw mixed rfl ?_
      refine D.move rfl rfl ?_
      refine D.lenLst hE T27 rfl rfl rfl newest_pv rfl ?_; dsimp only
      first | refine D.cmp rfl rfl rfl (by first | exact decide_eq_true (by omega) | exact decide_eq_false (by omega)) rfl ?_ | refine D.cmp rfl rfl rfl rfl rfl ?_
      refine D.move rfl rfl ?_
      first | (refine D.yes rfl rfl (by first | rfl | assumption) ?_; refine D.move rfl rfl ?_) | refine D.no rfl rfl rfl rfl ?_
      first | (refine D.yes rfl rfl (by first | rfl | assumption) ?_; refine D.index hE T27 rfl T5 rfl rfl (by first | exact newest_pv | exact newest_gl rfl rfl | trivial) rfl (by omega) (by first | assumption | rfl) rfl rfl rfl ?_) | refine D.no rfl rfl rfl rfl ?_
      first | (refine D.yes rfl rfl (by first | rfl | assumption) ?_; first | refine D.loadS hE T5 rfl rfl rfl (by rfl) rfl ?_ | refine D.loadE hE T5 rfl rfl (by rfl) rfl ?_ | refine D.load hE T5 rfl rfl rfl rfl ?_) | refine D.no rfl rfl rfl rfl ?_
      first | (refine D.yes rfl rfl (by first | rfl | assumption) ?_; refine D.field hE L95 rfl rfl rfl rfl ?_) | refine D.no rfl rfl rfl rfl ?_
      first | (refine D.yes rfl rfl (by first | rfl | assumption) ?_; first | refine D.loadS hE T5 rfl rfl rfl (by rfl) rfl ?_ | refine D.loadE hE T5 rfl rfl (by rfl) rfl ?_ | refine D.load hE T5 rfl rfl rfl rfl ?_) | refine D.no rfl rfl rfl rfl ?_
      first | (refine D.yes rfl rfl (by first | rfl | assumption) ?_; first | refine D.cmp rfl rfl rfl (by first | exact decide_eq_true (by omega) | exact decide_eq_false (by omega)) rfl ?_ | refine D.cmp rfl rfl rfl rfl rfl ?_) | refine D.no rfl rfl rfl rfl ?_
      refine D.pick rfl rfl rfl rfl rfl ?_
      refine D.move rfl rfl ?_
      first | (refine D.yes rfl rfl (by first | rfl | assumption) ?_; refine D.field hE L95 rfl rfl rfl rfl ?_) | refine D.no rfl rfl rfl rfl ?_
      first | (refine D.yes rfl rfl (by first | rfl | assumption) ?_; first | refine D.loadS hE T5 rfl rfl rfl (by rfl) rfl ?_ | refine D.loadE hE T5 rfl rfl (by rfl) rfl ?_ | refine D.load hE T5 rfl rfl rfl rfl ?_) | refine D.no rfl rfl rfl rfl ?_
      first | (refine D.yes rfl rfl (by first | rfl | assumption) ?_; refine D.move rfl rfl ?_) | refine D.no rfl rfl rfl rfl ?_
      first | (refine D.yes rfl rfl (by first | rfl | assumption) ?_; refine D.index hE T27 rfl T5 rfl rfl (by first | exact newest_pv | exact newest_gl rfl rfl | trivial) rfl (by omega) (by first | assumption | rfl) rfl rfl rfl ?_) | refine D.no rfl rfl rfl rfl ?_
      first | (refine D.yes rfl rfl (by first | rfl | assumption) ?_; first | refine D.loadS hE T5 rfl rfl rfl (by rfl) rfl ?_ | refine D.loadE hE T5 rfl rfl (by rfl) rfl ?_ | refine D.load hE T5 rfl rfl rfl rfl ?_) | refine D.no rfl rfl rfl rfl ?_
      first | (refine D.yes rfl rfl (by first | rfl | assumption) ?_; first | refine D.cmp rfl rfl rfl (by first | exact decide_eq_true (by omega) | exact decide_eq_false (by omega)) rfl ?_ | refine D.cmp rfl rfl rfl rfl rfl ?_) | refine D.no rfl rfl rfl rfl ?_
      refine D.pick rfl rfl rfl rfl rfl ?_
      refine D.move rfl rfl ?_
      first | (refine D.yes rfl rfl (by first | rfl | assumption) ?_; refine D.move rfl rfl ?_) | refine D.no rfl rfl rfl rfl ?_
      first | (refine D.yes rfl rfl (by first | rfl | assumption) ?_; refine D.index hE T27 rfl T5 rfl rfl (by first | exact newest_pv | exact newest_gl rfl rfl | trivial) rfl (by omega) (by first | assumption | rfl) rfl rfl rfl ?_) | refine D.no rfl rfl rfl rfl ?_
      first | (refine D.yes rfl rfl (by first | rfl | assumption) ?_; first | refine D.loadS hE T5 rfl rfl rfl (by rfl) rfl ?_ | refine D.loadE hE T5 rfl rfl (by rfl) rfl ?_ | refine D.load hE T5 rfl rfl rfl rfl ?_) | refine D.no rfl rfl rfl rfl ?_
      first | (refine D.yes rfl rfl (by first | rfl | assumption) ?_; first | refine D.cmp rfl rfl rfl (by first | exact decide_eq_true (by omega) | exact decide_eq_false (by omega)) rfl ?_ | refine D.cmp rfl rfl rfl rfl rfl ?_) | refine D.no rfl rfl rfl rfl ?_
      refine D.pick rfl rfl rfl rfl rfl ?_
      refine D.move rfl rfl ?_
      first | (refine D.yes rfl rfl (by first | rfl | assumption) ?_; refine D.move rfl rfl ?_) | refine D.no rfl rfl rfl rfl ?_
      first | (refine D.yes rfl rfl (by first | rfl | assumption) ?_; refine D.index hE T27 rfl T5 rfl rfl (by first | exact newest_pv | exact newest_gl rfl rfl | trivial) rfl (by omega) (by first | assumption | rfl) rfl rfl rfl ?_) | refine D.no rfl rfl rfl rfl ?_
      first | (refine D.yes rfl rfl (by first | rfl | assumption) ?_; first | refine D.loadS hE T5 rfl rfl rfl (by rfl) rfl ?_ | refine D.loadE hE T5 rfl rfl (by rfl) rfl ?_ | refine D.load hE T5 rfl rfl rfl rfl ?_) | refine D.no rfl rfl rfl rfl ?_
      first | (refine D.yes rfl rfl (by first | rfl | assumption) ?_; first | refine D.cmp rfl rfl rfl (by first | exact decide_eq_true (by omega) | exact decide_eq_false (by omega)) rfl ?_ | refine D.cmp rfl rfl rfl rfl rfl ?_) | refine D.no rfl rfl rfl rfl ?_
      refine D.pick rfl rfl rfl rfl rfl ?_
      refine D.move rfl rfl ?_
      first | (refine D.yes rfl rfl (by first | rfl | assumption) ?_; refine D.move rfl rfl ?_) | refine D.no rfl rfl rfl rfl ?_
      first | (refine D.yes rfl rfl (by first | rfl | assumption) ?_; refine D.index hE T27 rfl T5 rfl rfl (by first | exact newest_pv | exact newest_gl rfl rfl | trivial) rfl (by omega) (by first | assumption | rfl) rfl rfl rfl ?_) | refine D.no rfl rfl rfl rfl ?_
      first | (refine D.yes rfl rfl (by first | rfl | assumption) ?_; first | refine D.loadS hE T5 rfl rfl rfl (by rfl) rfl ?_ | refine D.loadE hE T5 rfl rfl (by rfl) rfl ?_ | refine D.load hE T5 rfl rfl rfl rfl ?_) | refine D.no rfl rfl rfl rfl ?_
      first | (refine D.yes rfl rfl (by first | rfl | assumption) ?_; first | refine D.cmp rfl rfl rfl (by first | exact decide_eq_true (by omega) | exact decide_eq_false (by omega)) rfl ?_ | refine D.cmp rfl rfl rfl rfl rfl ?_) | refine D.no rfl rfl rfl rfl ?_
      refine D.pick rfl rfl rfl rfl rfl ?_
      refine D.move rfl rfl ?_
      first | (refine D.yes rfl rfl (by first | rfl | assumption) ?_; refine D.move rfl rfl ?_) | refine D.no rfl rfl rfl rfl ?_
      first | (refine D.yes rfl rfl (by first | rfl | assumption) ?_; refine D.index hE T27 rfl T5 rfl rfl (by first | exact newest_pv | exact newest_gl rfl rfl | trivial) rfl (by omega) (by first | assumption | rfl) rfl rfl rfl ?_) | refine D.no rfl rfl rfl rfl ?_
      first | (refine D.yes rfl rfl (by first | rfl | assumption) ?_; first | refine D.loadS hE T5 rfl rfl rfl (by rfl) rfl ?_ | refine D.loadE hE T5 rfl rfl (by rfl) rfl ?_ | refine D.load hE T5 rfl rfl rfl rfl ?_) | refine D.no rfl rfl rfl rfl ?_
      first | (refine D.yes rfl rfl (by first | rfl | assumption) ?_; first | refine D.cmp rfl rfl rfl (by first | exact decide_eq_true (by omega) | exact decide_eq_false (by omega)) rfl ?_ | refine D.cmp rfl rfl rfl rfl rfl ?_) | refine D.no rfl rfl rfl rfl ?_
      refine D.pick rfl rfl rfl rfl rfl ?_
      refine Dr.nil ?_
      refine ⟨rfl, ?_⟩
      try refine Run.keep [0, 2, 3, 4, 5, 6, 15, 20, 31, 46, 69, 82, 83, 103, 106, 138, 141, 185] rfl rfl ?_
      repeat (first | refine Run.seq ?_ | refine Run.skip ?_)
      first | refine Run.condT rfl rfl ?_ | refine Run.condF rfl rfl ?_ | refine Run.condT rfl (by assumption) ?_ | refine Run.condF rfl (by assumption) ?_
      rw [if_pos (by omega)] at hlead
      subst hlead
      repeat (first | refine Run.seq ?_ | refine Run.skip ?_ | refine Run.block ?_)
      refine Run.region ?_
      refine O.assign rfl rfl ?_
      refine O.nil ?_
      try refine Run.keep [0, 2, 3, 4, 5, 6, 15, 20, 31, 46, 69, 82, 83, 103, 106, 138, 141, 185] rfl rfl ?_
      refine Run.ret ?_
      repeat (first | refine thenR_ret ?_ | refine roundR_ret ?_ | refine blockR_ret ?_)
      exact Ends.flat hE (.inr rfl) rfl rfl (AVle.of_eq rfl) rfl
    by_cases n3 : x2.toNat < 128
    ·
      repeat (first | refine Run.seq ?_ | refine Run.skip ?_ | refine Run.block ?_)
      refine Run.draw mixed rfl ?_
      refine D.move rfl rfl ?_
      refine D.lenLst hE T27 rfl rfl rfl newest_pv rfl ?_; dsimp only
      first | refine D.cmp rfl rfl rfl (by first | exact decide_eq_true (by omega) | exact decide_eq_false (by omega)) rfl ?_ | refine D.cmp rfl rfl rfl rfl rfl ?_
      refine D.move rfl rfl ?_
      first | (refine D.yes rfl rfl (by first | rfl | assumption) ?_; refine D.move rfl rfl ?_) | refine D.no rfl rfl rfl rfl ?_
      first | (refine D.yes rfl rfl (by first | rfl | assumption) ?_; refine D.index hE T27 rfl T5 rfl rfl (by first | exact newest_pv | exact newest_gl rfl rfl | trivial) rfl (by omega) (by first | assumption | rfl) rfl rfl rfl ?_) | refine D.no rfl rfl rfl rfl ?_
      first | (refine D.yes rfl rfl (by first | rfl | assumption) ?_; first | refine D.loadS hE T5 rfl rfl rfl (by rfl) rfl ?_ | refine D.loadE hE T5 rfl rfl (by rfl) rfl ?_ | refine D.load hE T5 rfl rfl rfl rfl ?_) | refine D.no rfl rfl rfl rfl ?_
      first | (refine D.yes rfl rfl (by first | rfl | assumption) ?_; refine D.field hE L95 rfl rfl rfl rfl ?_) | refine D.no rfl rfl rfl rfl ?_
      first | (refine D.yes rfl rfl (by first | rfl | assumption) ?_; first | refine D.loadS hE T5 rfl rfl rfl (by rfl) rfl ?_ | refine D.loadE hE T5 rfl rfl (by rfl) rfl ?_ | refine D.load hE T5 rfl rfl rfl rfl ?_) | refine D.no rfl rfl rfl rfl ?_
      first | (refine D.yes rfl rfl (by first | rfl | assumption) ?_; first | refine D.cmp rfl rfl rfl (by first | exact decide_eq_true (by omega) | exact decide_eq_false (by omega)) rfl ?_ | refine D.cmp rfl rfl rfl rfl rfl ?_) | refine D.no rfl rfl rfl rfl ?_
      refine D.pick rfl rfl rfl rfl rfl ?_
      refine D.move rfl rfl ?_
      first | (refine D.yes rfl rfl (by first | rfl | assumption) ?_; refine D.field hE L95 rfl rfl rfl rfl ?_) | refine D.no rfl rfl rfl rfl ?_
      first | (refine D.yes rfl rfl (by first | rfl | assumption) ?_; first | refine D.loadS hE T5 rfl rfl rfl (by rfl) rfl ?_ | refine D.loadE hE T5 rfl rfl (by rfl) rfl ?_ | refine D.load hE T5 rfl rfl rfl rfl ?_) | refine D.no rfl rfl rfl rfl ?_
      first | (refine D.yes rfl rfl (by first | rfl | assumption) ?_; refine D.move rfl rfl ?_) | refine D.no rfl rfl rfl rfl ?_
      first | (refine D.yes rfl rfl (by first | rfl | assumption) ?_; refine D.index hE T27 rfl T5 rfl rfl (by first | exact newest_pv | exact newest_gl rfl rfl | trivial) rfl (by omega) (by first | assumption | rfl) rfl rfl rfl ?_) | refine D.no rfl rfl rfl rfl ?_
      first | (refine D.yes rfl rfl (by first | rfl | assumption) ?_; first | refine D.loadS hE T5 rfl rfl rfl (by rfl) rfl ?_ | refine D.loadE hE T5 rfl rfl (by rfl) rfl ?_ | refine D.load hE T5 rfl rfl rfl rfl ?_) | refine D.no rfl rfl rfl rfl ?_
      first | (refine D.yes rfl rfl (by first | rfl | assumption) ?_; first | refine D.cmp rfl rfl rfl (by first | exact decide_eq_true (by omega) | exact decide_eq_false (by omega)) rfl ?_ | refine D.cmp rfl rfl rfl rfl rfl ?_) | refine D.no rfl rfl rfl rfl ?_
      refine D.pick rfl rfl rfl rfl rfl ?_
      refine D.move rfl rfl ?_
      first | (refine D.yes rfl rfl (by first | rfl | assumption) ?_; refine D.move rfl rfl ?_) | refine D.no rfl rfl rfl rfl ?_
      first | (refine D.yes rfl rfl (by first | rfl | assumption) ?_; refine D.index hE T27 rfl T5 rfl rfl (by first | exact newest_pv | exact newest_gl rfl rfl | trivial) rfl (by omega) (by first | assumption | rfl) rfl rfl rfl ?_) | refine D.no rfl rfl rfl rfl ?_
      first | (refine D.yes rfl rfl (by first | rfl | assumption) ?_; first | refine D.loadS hE T5 rfl rfl rfl (by rfl) rfl ?_ | refine D.loadE hE T5 rfl rfl (by rfl) rfl ?_ | refine D.load hE T5 rfl rfl rfl rfl ?_) | refine D.no rfl rfl rfl rfl ?_
      first | (refine D.yes rfl rfl (by first | rfl | assumption) ?_; first | refine D.cmp rfl rfl rfl (by first | exact decide_eq_true (by omega) | exact decide_eq_false (by omega)) rfl ?_ | refine D.cmp rfl rfl rfl rfl rfl ?_) | refine D.no rfl rfl rfl rfl ?_
      refine D.pick rfl rfl rfl rfl rfl ?_
      refine D.move rfl rfl ?_
      first | (refine D.yes rfl rfl (by first | rfl | assumption) ?_; refine D.move rfl rfl ?_) | refine D.no rfl rfl rfl rfl ?_
      first | (refine D.yes rfl rfl (by first | rfl | assumption) ?_; refine D.index hE T27 rfl T5 rfl rfl (by first | exact newest_pv | exact newest_gl rfl rfl | trivial) rfl (by omega) (by first | assumption | rfl) rfl rfl rfl ?_) | refine D.no rfl rfl rfl rfl ?_
      first | (refine D.yes rfl rfl (by first | rfl | assumption) ?_; first | refine D.loadS hE T5 rfl rfl rfl (by rfl) rfl ?_ | refine D.loadE hE T5 rfl rfl (by rfl) rfl ?_ | refine D.load hE T5 rfl rfl rfl rfl ?_) | refine D.no rfl rfl rfl rfl ?_
      first | (refine D.yes rfl rfl (by first | rfl | assumption) ?_; first | refine D.cmp rfl rfl rfl (by first | exact decide_eq_true (by omega) | exact decide_eq_false (by omega)) rfl ?_ | refine D.cmp rfl rfl rfl rfl rfl ?_) | refine D.no rfl rfl rfl rfl ?_
      refine D.pick rfl rfl rfl rfl rfl ?_
      refine D.move rfl rfl ?_
      first | (refine D.yes rfl rfl (by first | rfl | assumption) ?_; refine D.move rfl rfl ?_) | refine D.no rfl rfl rfl rfl ?_
      first | (refine D.yes rfl rfl (by first | rfl | assumption) ?_; refine D.index hE T27 rfl T5 rfl rfl (by first | exact newest_pv | exact newest_gl rfl rfl | trivial) rfl (by omega) (by first | assumption | rfl) rfl rfl rfl ?_) | refine D.no rfl rfl rfl rfl ?_
      first | (refine D.yes rfl rfl (by first | rfl | assumption) ?_; first | refine D.loadS hE T5 rfl rfl rfl (by rfl) rfl ?_ | refine D.loadE hE T5 rfl rfl (by rfl) rfl ?_ | refine D.load hE T5 rfl rfl rfl rfl ?_) | refine D.no rfl rfl rfl rfl ?_
      first | (refine D.yes rfl rfl (by first | rfl | assumption) ?_; first | refine D.cmp rfl rfl rfl (by first | exact decide_eq_true (by omega) | exact decide_eq_false (by omega)) rfl ?_ | refine D.cmp rfl rfl rfl rfl rfl ?_) | refine D.no rfl rfl rfl rfl ?_
      refine D.pick rfl rfl rfl rfl rfl ?_
      refine D.move rfl rfl ?_
      first | (refine D.yes rfl rfl (by first | rfl | assumption) ?_; refine D.move rfl rfl ?_) | refine D.no rfl rfl rfl rfl ?_
      first | (refine D.yes rfl rfl (by first | rfl | assumption) ?_; refine D.index hE T27 rfl T5 rfl rfl (by first | exact newest_pv | exact newest_gl rfl rfl | trivial) rfl (by omega) (by first | assumption | rfl) rfl rfl rfl ?_) | refine D.no rfl rfl rfl rfl ?_
      first | (refine D.yes rfl rfl (by first | rfl | assumption) ?_; first | refine D.loadS hE T5 rfl rfl rfl (by rfl) rfl ?_ | refine D.loadE hE T5 rfl rfl (by rfl) rfl ?_ | refine D.load hE T5 rfl rfl rfl rfl ?_) | refine D.no rfl rfl rfl rfl ?_
      first | (refine D.yes rfl rfl (by first | rfl | assumption) ?_; first | refine D.cmp rfl rfl rfl (by first | exact decide_eq_true (by omega) | exact decide_eq_false (by omega)) rfl ?_ | refine D.cmp rfl rfl rfl rfl rfl ?_) | refine D.no rfl rfl rfl rfl ?_
      refine D.pick rfl rfl rfl rfl rfl ?_
      refine Dr.nil ?_
      refine ⟨rfl, ?_⟩
      try refine Run.keep [0, 2, 3, 4, 5, 6, 15, 20, 31, 46, 69, 82, 83, 103, 106, 138, 141, 185] rfl rfl ?_
      repeat (first | refine Run.seq ?_ | refine Run.skip ?_)
      first | refine Run.condT rfl rfl ?_ | refine Run.condF rfl rfl ?_ | refine Run.condT rfl (by assumption) ?_ | refine Run.condF rfl (by assumption) ?_
      rw [if_pos (by omega)] at hlead
      subst hlead
      repeat (first | refine Run.seq ?_ | refine Run.skip ?_ | refine Run.block ?_)
      refine Run.region ?_
      refine O.assign rfl rfl ?_
      refine O.nil ?_
      try refine Run.keep [0, 2, 3, 4, 5, 6, 15, 20, 31, 46, 69, 82, 83, 103, 106, 138, 141, 185] rfl rfl ?_
      refine Run.ret ?_
      repeat (first | refine thenR_ret ?_ | refine roundR_ret ?_ | refine blockR_ret ?_)
      exact Ends.flat hE (.inr rfl) rfl rfl (AVle.of_eq rfl) rfl
    by_cases n4 : 191 < x2.toNat
    ·
      repeat (first | refine Run.seq ?_ | refine Run.skip ?_ | refine Run.block ?_)
      refine Run.draw mixed rfl ?_
      refine D.move rfl rfl ?_
      refine D.lenLst hE T27 rfl rfl rfl newest_pv rfl ?_; dsimp only
      first | refine D.cmp rfl rfl rfl (by first | exact decide_eq_true (by omega) | exact decide_eq_false (by omega)) rfl ?_ | refine D.cmp rfl rfl rfl rfl rfl ?_
      refine D.move rfl rfl ?_
      first | (refine D.yes rfl rfl (by first | rfl | assumption) ?_; refine D.move rfl rfl ?_) | refine D.no rfl rfl rfl rfl ?_
      first | (refine D.yes rfl rfl (by first | rfl | assumption) ?_; refine D.index hE T27 rfl T5 rfl rfl (by first | exact newest_pv | exact newest_gl rfl rfl | trivial) rfl (by omega) (by first | assumption | rfl) rfl rfl rfl ?_) | refine D.no rfl rfl rfl rfl ?_
      first | (refine D.yes rfl rfl (by first | rfl | assumption) ?_; first | refine D.loadS hE T5 rfl rfl rfl (by rfl) rfl ?_ | refine D.loadE hE T5 rfl rfl (by rfl) rfl ?_ | refine D.load hE T5 rfl rfl rfl rfl ?_) | refine D.no rfl rfl rfl rfl ?_
      first | (refine D.yes rfl rfl (by first | rfl | assumption) ?_; refine D.field hE L95 rfl rfl rfl rfl ?_) | refine D.no rfl rfl rfl rfl ?_
      first | (refine D.yes rfl rfl (by first | rfl | assumption) ?_; first | refine D.loadS hE T5 rfl rfl rfl (by rfl) rfl ?_ | refine D.loadE hE T5 rfl rfl (by rfl) rfl ?_ | refine D.load hE T5 rfl rfl rfl rfl ?_) | refine D.no rfl rfl rfl rfl ?_
      first | (refine D.yes rfl rfl (by first | rfl | assumption) ?_; first | refine D.cmp rfl rfl rfl (by first | exact decide_eq_true (by omega) | exact decide_eq_false (by omega)) rfl ?_ | refine D.cmp rfl rfl rfl rfl rfl ?_) | refine D.no rfl rfl rfl rfl ?_
      refine D.pick rfl rfl rfl rfl rfl ?_
      refine D.move rfl rfl ?_
      first | (refine D.yes rfl rfl (by first | rfl | assumption) ?_; refine D.field hE L95 rfl rfl rfl rfl ?_) | refine D.no rfl rfl rfl rfl ?_
      first | (refine D.yes rfl rfl (by first | rfl | assumption) ?_; first | refine D.loadS hE T5 rfl rfl rfl (by rfl) rfl ?_ | refine D.loadE hE T5 rfl rfl (by rfl) rfl ?_ | refine D.load hE T5 rfl rfl rfl rfl ?_) | refine D.no rfl rfl rfl rfl ?_
      first | (refine D.yes rfl rfl (by first | rfl | assumption) ?_; refine D.move rfl rfl ?_) | refine D.no rfl rfl rfl rfl ?_
      first | (refine D.yes rfl rfl (by first | rfl | assumption) ?_; refine D.index hE T27 rfl T5 rfl rfl (by first | exact newest_pv | exact newest_gl rfl rfl | trivial) rfl (by omega) (by first | assumption | rfl) rfl rfl rfl ?_) | refine D.no rfl rfl rfl rfl ?_
      first | (refine D.yes rfl rfl (by first | rfl | assumption) ?_; first | refine D.loadS hE T5 rfl rfl rfl (by rfl) rfl ?_ | refine D.loadE hE T5 rfl rfl (by rfl) rfl ?_ | refine D.load hE T5 rfl rfl rfl rfl ?_) | refine D.no rfl rfl rfl rfl ?_
      first | (refine D.yes rfl rfl (by first | rfl | assumption) ?_; first | refine D.cmp rfl rfl rfl (by first | exact decide_eq_true (by omega) | exact decide_eq_false (by omega)) rfl ?_ | refine D.cmp rfl rfl rfl rfl rfl ?_) | refine D.no rfl rfl rfl rfl ?_
      refine D.pick rfl rfl rfl rfl rfl ?_
      refine D.move rfl rfl ?_
      first | (refine D.yes rfl rfl (by first | rfl | assumption) ?_; refine D.move rfl rfl ?_) | refine D.no rfl rfl rfl rfl ?_
      first | (refine D.yes rfl rfl (by first | rfl | assumption) ?_; refine D.index hE T27 rfl T5 rfl rfl (by first | exact newest_pv | exact newest_gl rfl rfl | trivial) rfl (by omega) (by first | assumption | rfl) rfl rfl rfl ?_) | refine D.no rfl rfl rfl rfl ?_
      first | (refine D.yes rfl rfl (by first | rfl | assumption) ?_; first | refine D.loadS hE T5 rfl rfl rfl (by rfl) rfl ?_ | refine D.loadE hE T5 rfl rfl (by rfl) rfl ?_ | refine D.load hE T5 rfl rfl rfl rfl ?_) | refine D.no rfl rfl rfl rfl ?_
      first | (refine D.yes rfl rfl (by first | rfl | assumption) ?_; first | refine D.cmp rfl rfl rfl (by first | exact decide_eq_true (by omega) | exact decide_eq_false (by omega)) rfl ?_ | refine D.cmp rfl rfl rfl rfl rfl ?_) | refine D.no rfl rfl rfl rfl ?_
      refine D.pick rfl rfl rfl rfl rfl ?_
      refine D.move rfl rfl ?_
      first | (refine D.yes rfl rfl (by first | rfl | assumption) ?_; refine D.move rfl rfl ?_) | refine D.no rfl rfl rfl rfl ?_
      first | (refine D.yes rfl rfl (by first | rfl | assumption) ?_; refine D.index hE T27 rfl T5 rfl rfl (by first | exact newest_pv | exact newest_gl rfl rfl | trivial) rfl (by omega) (by first | assumption | rfl) rfl rfl rfl ?_) | refine D.no rfl rfl rfl rfl ?_
      first | (refine D.yes rfl rfl (by first | rfl | assumption) ?_; first | refine D.loadS hE T5 rfl rfl rfl (by rfl) rfl ?_ | refine D.loadE hE T5 rfl rfl (by rfl) rfl ?_ | refine D.load hE T5 rfl rfl rfl rfl ?_) | refine D.no rfl rfl rfl rfl ?_
      first | (refine D.yes rfl rfl (by first | rfl | assumption) ?_; first | refine D.cmp rfl rfl rfl (by first | exact decide_eq_true (by omega) | exact decide_eq_false (by omega)) rfl ?_ | refine D.cmp rfl rfl rfl rfl rfl ?_) | refine D.no rfl rfl rfl rfl ?_
      refine D.pick rfl rfl rfl rfl rfl ?_
      refine D.move rfl rfl ?_
      first | (refine D.yes rfl rfl (by first | rfl | assumption) ?_; refine D.move rfl rfl ?_) | refine D.no rfl rfl rfl rfl ?_
      first | (refine D.yes rfl rfl (by first | rfl | assumption) ?_; refine D.index hE T27 rfl T5 rfl rfl (by first | exact newest_pv | exact newest_gl rfl rfl | trivial) rfl (by omega) (by first | assumption | rfl) rfl rfl rfl ?_) | refine D.no rfl rfl rfl rfl ?_
      first | (refine D.yes rfl rfl (by first | rfl | assumption) ?_; first | refine D.loadS hE T5 rfl rfl rfl (by rfl) rfl ?_ | refine D.loadE hE T5 rfl rfl (by rfl) rfl ?_ | refine D.load hE T5 rfl rfl rfl rfl ?_) | refine D.no rfl rfl rfl rfl ?_
      first | (refine D.yes rfl rfl (by first | rfl | assumption) ?_; first | refine D.cmp rfl rfl rfl (by first | exact decide_eq_true (by omega) | exact decide_eq_false (by omega)) rfl ?_ | refine D.cmp rfl rfl rfl rfl rfl ?_) | refine D.no rfl rfl rfl rfl ?_
      refine D.pick rfl rfl rfl rfl rfl ?_
      refine D.move rfl rfl ?_
      first | (refine D.yes rfl rfl (by first | rfl | assumption) ?_; refine D.move rfl rfl ?_) | refine D.no rfl rfl rfl rfl ?_
      first | (refine D.yes rfl rfl (by first | rfl | assumption) ?_; refine D.index hE T27 rfl T5 rfl rfl (by first | exact newest_pv | exact newest_gl rfl rfl | trivial) rfl (by omega) (by first | assumption | rfl) rfl rfl rfl ?_) | refine D.no rfl rfl rfl rfl ?_
      first | (refine D.yes rfl rfl (by first | rfl | assumption) ?_; first | refine D.loadS hE T5 rfl rfl rfl (by rfl) rfl ?_ | refine D.loadE hE T5 rfl rfl (by rfl) rfl ?_ | refine D.load hE T5 rfl rfl rfl rfl ?_) | refine D.no rfl rfl rfl rfl ?_
      first | (refine D.yes rfl rfl (by first | rfl | assumption) ?_; first | refine D.cmp rfl rfl rfl (by first | exact decide_eq_true (by omega) | exact decide_eq_false (by omega)) rfl ?_ | refine D.cmp rfl rfl rfl rfl rfl ?_) | refine D.no rfl rfl rfl rfl ?_
      refine D.pick rfl rfl rfl rfl rfl ?_
      refine Dr.nil ?_
      refine ⟨rfl, ?_⟩
      try refine Run.keep [0, 2, 3, 4, 5, 6, 15, 20, 31, 46, 69, 82, 83, 103, 106, 138, 141, 185] rfl rfl ?_
      repeat (first | refine Run.seq ?_ | refine Run.skip ?_)
      first | refine Run.condT rfl rfl ?_ | refine Run.condF rfl rfl ?_ | refine Run.condT rfl (by assumption) ?_ | refine Run.condF rfl (by assumption) ?_
      rw [if_pos (by omega)] at hlead
      subst hlead
      repeat (first | refine Run.seq ?_ | refine Run.skip ?_ | refine Run.block ?_)
      refine Run.region ?_
      refine O.assign rfl rfl ?_
      refine O.nil ?_
      try refine Run.keep [0, 2, 3, 4, 5, 6, 15, 20, 31, 46, 69, 82, 83, 103, 106, 138, 141, 185] rfl rfl ?_
      refine Run.ret ?_
      repeat (first | refine thenR_ret ?_ | refine roundR_ret ?_ | refine blockR_ret ?_)
      exact Ends.flat hE (.inr rfl) rfl rfl (AVle.of_eq rfl) rfl
    by_cases n5 : x3.toNat < 128
    ·
      repeat (first | refine Run.seq ?_ | refine Run.skip ?_ | refine Run.block ?_)
      refine Run.draw mixed rfl ?_
      refine D.move rfl rfl ?_
      refine D.lenLst hE T27 rfl rfl rfl newest_pv rfl ?_; dsimp only
      first | refine D.cmp rfl rfl rfl (by first | exact decide_eq_true (by omega) | exact decide_eq_false (by omega)) rfl ?_ | refine D.cmp rfl rfl rfl rfl rfl ?_
      refine D.move rfl rfl ?_
      first | (refine D.yes rfl rfl (by first | rfl | assumption) ?_; refine D.move rfl rfl ?_) | refine D.no rfl rfl rfl rfl ?_
      first | (refine D.yes rfl rfl (by first | rfl | assumption) ?_; refine D.index hE T27 rfl T5 rfl rfl (by first | exact newest_pv | exact newest_gl rfl rfl | trivial) rfl (by omega) (by first | assumption | rfl) rfl rfl rfl ?_) | refine D.no rfl rfl rfl rfl ?_
      first | (refine D.yes rfl rfl (by first | rfl | assumption) ?_; first | refine D.loadS hE T5 rfl rfl rfl (by rfl) rfl ?_ | refine D.loadE hE T5 rfl rfl (by rfl) rfl ?_ | refine D.load hE T5 rfl rfl rfl rfl ?_) | refine D.no rfl rfl rfl rfl ?_
      first | (refine D.yes rfl rfl (by first | rfl | assumption) ?_; refine D.field hE L95 rfl rfl rfl rfl ?_) | refine D.no rfl rfl rfl rfl ?_
      first | (refine D.yes rfl rfl (by first | rfl | assumption) ?_; first | refine D.loadS hE T5 rfl rfl rfl (by rfl) rfl ?_ | refine D.loadE hE T5 rfl rfl (by rfl) rfl ?_ | refine D.load hE T5 rfl rfl rfl rfl ?_) | refine D.no rfl rfl rfl rfl ?_
      first | (refine D.yes rfl rfl (by first | rfl | assumption) ?_; first | refine D.cmp rfl rfl rfl (by first | exact decide_eq_true (by omega) | exact decide_eq_false (by omega)) rfl ?_ | refine D.cmp rfl rfl rfl rfl rfl ?_) | refine D.no rfl rfl rfl rfl ?_
      refine D.pick rfl rfl rfl rfl rfl ?_
      refine D.move rfl rfl ?_
      first | (refine D.yes rfl rfl (by first | rfl | assumption) ?_; refine D.field hE L95 rfl rfl rfl rfl ?_) | refine D.no rfl rfl rfl rfl ?_
      first | (refine D.yes rfl rfl (by first | rfl | assumption) ?_; first | refine D.loadS hE T5 rfl rfl rfl (by rfl) rfl ?_ | refine D.loadE hE T5 rfl rfl (by rfl) rfl ?_ | refine D.load hE T5 rfl rfl rfl rfl ?_) | refine D.no rfl rfl rfl rfl ?_
      first | (refine D.yes rfl rfl (by first | rfl | assumption) ?_; refine D.move rfl rfl ?_) | refine D.no rfl rfl rfl rfl ?_
      first | (refine D.yes rfl rfl (by first | rfl | assumption) ?_; refine D.index hE T27 rfl T5 rfl rfl (by first | exact newest_pv | exact newest_gl rfl rfl | trivial) rfl (by omega) (by first | assumption | rfl) rfl rfl rfl ?_) | refine D.no rfl rfl rfl rfl ?_
      first | (refine D.yes rfl rfl (by first | rfl | assumption) ?_; first | refine D.loadS hE T5 rfl rfl rfl (by rfl) rfl ?_ | refine D.loadE hE T5 rfl rfl (by rfl) rfl ?_ | refine D.load hE T5 rfl rfl rfl rfl ?_) | refine D.no rfl rfl rfl rfl ?_
      first | (refine D.yes rfl rfl (by first | rfl | assumption) ?_; first | refine D.cmp rfl rfl rfl (by first | exact decide_eq_true (by omega) | exact decide_eq_false (by omega)) rfl ?_ | refine D.cmp rfl rfl rfl rfl rfl ?_) | refine D.no rfl rfl rfl rfl ?_
      refine D.pick rfl rfl rfl rfl rfl ?_
      refine D.move rfl rfl ?_
      first | (refine D.yes rfl rfl (by first | rfl | assumption) ?_; refine D.move rfl rfl ?_) | refine D.no rfl rfl rfl rfl ?_
      first | (refine D.yes rfl rfl (by first | rfl | assumption) ?_; refine D.index hE T27 rfl T5 rfl rfl (by first | exact newest_pv | exact newest_gl rfl rfl | trivial) rfl (by omega) (by first | assumption | rfl) rfl rfl rfl ?_) | refine D.no rfl rfl rfl rfl ?_
      first | (refine D.yes rfl rfl (by first | rfl | assumption) ?_; first | refine D.loadS hE T5 rfl rfl rfl (by rfl) rfl ?_ | refine D.loadE hE T5 rfl rfl (by rfl) rfl ?_ | refine D.load hE T5 rfl rfl rfl rfl ?_) | refine D.no rfl rfl rfl rfl ?_
      first | (refine D.yes rfl rfl (by first | rfl | assumption) ?_; first | refine D.cmp rfl rfl rfl (by first | exact decide_eq_true (by omega) | exact decide_eq_false (by omega)) rfl ?_ | refine D.cmp rfl rfl rfl rfl rfl ?_) | refine D.no rfl rfl rfl rfl ?_
      refine D.pick rfl rfl rfl rfl rfl ?_
      refine D.move rfl rfl ?_
      first | (refine D.yes rfl rfl (by first | rfl | assumption) ?_; refine D.move rfl rfl ?_) | refine D.no rfl rfl rfl rfl ?_
      first | (refine D.yes rfl rfl (by first | rfl | assumption) ?_; refine D.index hE T27 rfl T5 rfl rfl (by first | exact newest_pv | exact newest_gl rfl rfl | trivial) rfl (by omega) (by first | assumption | rfl) rfl rfl rfl ?_) | refine D.no rfl rfl rfl rfl ?_
      first | (refine D.yes rfl rfl (by first | rfl | assumption) ?_; first | refine D.loadS hE T5 rfl rfl rfl (by rfl) rfl ?_ | refine D.loadE hE T5 rfl rfl (by rfl) rfl ?_ | refine D.load hE T5 rfl rfl rfl rfl ?_) | refine D.no rfl rfl rfl rfl ?_
      first | (refine D.yes rfl rfl (by first | rfl | assumption) ?_; first | refine D.cmp rfl rfl rfl (by first | exact decide_eq_true (by omega) | exact decide_eq_false (by omega)) rfl ?_ | refine D.cmp rfl rfl rfl rfl rfl ?_) | refine D.no rfl rfl rfl rfl ?_
      refine D.pick rfl rfl rfl rfl rfl ?_
      refine D.move rfl rfl ?_
      first | (refine D.yes rfl rfl (by first | rfl | assumption) ?_; refine D.move rfl rfl ?_) | refine D.no rfl rfl rfl rfl ?_
      first | (refine D.yes rfl rfl (by first | rfl | assumption) ?_; refine D.index hE T27 rfl T5 rfl rfl (by first | exact newest_pv | exact newest_gl rfl rfl | trivial) rfl (by omega) (by first | assumption | rfl) rfl rfl rfl ?_) | refine D.no rfl rfl rfl rfl ?_
      first | (refine D.yes rfl rfl (by first | rfl | assumption) ?_; first | refine D.loadS hE T5 rfl rfl rfl (by rfl) rfl ?_ | refine D.loadE hE T5 rfl rfl (by rfl) rfl ?_ | refine D.load hE T5 rfl rfl rfl rfl ?_) | refine D.no rfl rfl rfl rfl ?_
      first | (refine D.yes rfl rfl (by first | rfl | assumption) ?_; first | refine D.cmp rfl rfl rfl (by first | exact decide_eq_true (by omega) | exact decide_eq_false (by omega)) rfl ?_ | refine D.cmp rfl rfl rfl rfl rfl ?_) | refine D.no rfl rfl rfl rfl ?_
      refine D.pick rfl rfl rfl rfl rfl ?_
      refine D.move rfl rfl ?_
      first | (refine D.yes rfl rfl (by first | rfl | assumption) ?_; refine D.move rfl rfl ?_) | refine D.no rfl rfl rfl rfl ?_
      first | (refine D.yes rfl rfl (by first | rfl | assumption) ?_; refine D.index hE T27 rfl T5 rfl rfl (by first | exact newest_pv | exact newest_gl rfl rfl | trivial) rfl (by omega) (by first | assumption | rfl) rfl rfl rfl ?_) | refine D.no rfl rfl rfl rfl ?_
      first | (refine D.yes rfl rfl (by first | rfl | assumption) ?_; first | refine D.loadS hE T5 rfl rfl rfl (by rfl) rfl ?_ | refine D.loadE hE T5 rfl rfl (by rfl) rfl ?_ | refine D.load hE T5 rfl rfl rfl rfl ?_) | refine D.no rfl rfl rfl rfl ?_
      first | (refine D.yes rfl rfl (by first | rfl | assumption) ?_; first | refine D.cmp rfl rfl rfl (by first | exact decide_eq_true (by omega) | exact decide_eq_false (by omega)) rfl ?_ | refine D.cmp rfl rfl rfl rfl rfl ?_) | refine D.no rfl rfl rfl rfl ?_
      refine D.pick rfl rfl rfl rfl rfl ?_
      refine Dr.nil ?_
      refine ⟨rfl, ?_⟩
      try refine Run.keep [0, 2, 3, 4, 5, 6, 15, 20, 31, 46, 69, 82, 83, 103, 106, 138, 141, 185] rfl rfl ?_
      repeat (first | refine Run.seq ?_ | refine Run.skip ?_)
      first | refine Run.condT rfl rfl ?_ | refine Run.condF rfl rfl ?_ | refine Run.condT rfl (by assumption) ?_ | refine Run.condF rfl (by assumption) ?_
      rw [if_pos (by omega)] at hlead
      subst hlead
      repeat (first | refine Run.seq ?_ | refine Run.skip ?_ | refine Run.block ?_)
      refine Run.region ?_
      refine O.assign rfl rfl ?_
      refine O.nil ?_
      try refine Run.keep [0, 2, 3, 4, 5, 6, 15, 20, 31, 46, 69, 82, 83, 103, 106, 138, 141, 185] rfl rfl ?_
      refine Run.ret ?_
      repeat (first | refine thenR_ret ?_ | refine roundR_ret ?_ | refine blockR_ret ?_)
      exact Ends.flat hE (.inr rfl) rfl rfl (AVle.of_eq rfl) rfl
    by_cases n6 : 191 < x3.toNat
    ·
      repeat (first | refine Run.seq ?_ | refine Run.skip ?_ | refine Run.block ?_)
      refine Run.draw mixed rfl ?_
      refine D.move rfl rfl ?_
      refine D.lenLst hE T27 rfl rfl rfl newest_pv rfl ?_; dsimp only
      first | refine D.cmp rfl rfl rfl (by first | exact decide_eq_true (by omega) | exact decide_eq_false (by omega)) rfl ?_ | refine D.cmp rfl rfl rfl rfl rfl ?_
      refine D.move rfl rfl ?_
      first | (refine D.yes rfl rfl (by first | rfl | assumption) ?_; refine D.move rfl rfl ?_) | refine D.no rfl rfl rfl rfl ?_
      first | (refine D.yes rfl rfl (by first | rfl | assumption) ?_; refine D.index hE T27 rfl T5 rfl rfl (by first | exact newest_pv | exact newest_gl rfl rfl | trivial) rfl (by omega) (by first | assumption | rfl) rfl rfl rfl ?_) | refine D.no rfl rfl rfl rfl ?_
      first | (refine D.yes rfl rfl (by first | rfl | assumption) ?_; first | refine D.loadS hE T5 rfl rfl rfl (by rfl) rfl ?_ | refine D.loadE hE T5 rfl rfl (by rfl) rfl ?_ | refine D.load hE T5 rfl rfl rfl rfl ?_) | refine D.no rfl rfl rfl rfl ?_
      first | (refine D.yes rfl rfl (by first | rfl | assumption) ?_; refine D.field hE L95 rfl rfl rfl rfl ?_) | refine D.no rfl rfl rfl rfl ?_
      first | (refine D.yes rfl rfl (by first | rfl | assumption) ?_; first | refine D.loadS hE T5 rfl rfl rfl (by rfl) rfl ?_ | refine D.loadE hE T5 rfl rfl (by rfl) rfl ?_ | refine D.load hE T5 rfl rfl rfl rfl ?_) | refine D.no rfl rfl rfl rfl ?_
      first | (refine D.yes rfl rfl (by first | rfl | assumption) ?_; first | refine D.cmp rfl rfl rfl (by first | exact decide_eq_true (by omega) | exact decide_eq_false (by omega)) rfl ?_ | refine D.cmp rfl rfl rfl rfl rfl ?_) | refine D.no rfl rfl rfl rfl ?_
      refine D.pick rfl rfl rfl rfl rfl ?_
      refine D.move rfl rfl ?_
      first | (refine D.yes rfl rfl (by first | rfl | assumption) ?_; refine D.field hE L95 rfl rfl rfl rfl ?_) | refine D.no rfl rfl rfl rfl ?_
      first | (refine D.yes rfl rfl (by first | rfl | assumption) ?_; first | refine D.loadS hE T5 rfl rfl rfl (by rfl) rfl ?_ | refine D.loadE hE T5 rfl rfl (by rfl) rfl ?_ | refine D.load hE T5 rfl rfl rfl rfl ?_) | refine D.no rfl rfl rfl rfl ?_
      first | (refine D.yes rfl rfl (by first | rfl | assumption) ?_; refine D.move rfl rfl ?_) | refine D.no rfl rfl rfl rfl ?_
      first | (refine D.yes rfl rfl (by first | rfl | assumption) ?_; refine D.index hE T27 rfl T5 rfl rfl (by first | exact newest_pv | exact newest_gl rfl rfl | trivial) rfl (by omega) (by first | assumption | rfl) rfl rfl rfl ?_) | refine D.no rfl rfl rfl rfl ?_
      first | (refine D.yes rfl rfl (by first | rfl | assumption) ?_; first | refine D.loadS hE T5 rfl rfl rfl (by rfl) rfl ?_ | refine D.loadE hE T5 rfl rfl (by rfl) rfl ?_ | refine D.load hE T5 rfl rfl rfl rfl ?_) | refine D.no rfl rfl rfl rfl ?_
      first | (refine D.yes rfl rfl (by first | rfl | assumption) ?_; first | refine D.cmp rfl rfl rfl (by first | exact decide_eq_true (by omega) | exact decide_eq_false (by omega)) rfl ?_ | refine D.cmp rfl rfl rfl rfl rfl ?_) | refine D.no rfl rfl rfl rfl ?_
      refine D.pick rfl rfl rfl rfl rfl ?_
      refine D.move rfl rfl ?_
      first | (refine D.yes rfl rfl (by first | rfl | assumption) ?_; refine D.move rfl rfl ?_) | refine D.no rfl rfl rfl rfl ?_
      first | (refine D.yes rfl rfl (by first | rfl | assumption) ?_; refine D.index hE T27 rfl T5 rfl rfl (by first | exact newest_pv | exact newest_gl rfl rfl | trivial) rfl (by omega) (by first | assumption | rfl) rfl rfl rfl ?_) | refine D.no rfl rfl rfl rfl ?_
      first | (refine D.yes rfl rfl (by first | rfl | assumption) ?_; first | refine D.loadS hE T5 rfl rfl rfl (by rfl) rfl ?_ | refine D.loadE hE T5 rfl rfl (by rfl) rfl ?_ | refine D.load hE T5 rfl rfl rfl rfl ?_) | refine D.no rfl rfl rfl rfl ?_
      first | (refine D.yes rfl rfl (by first | rfl | assumption) ?_; first | refine D.cmp rfl rfl rfl (by first | exact decide_eq_true (by omega) | exact decide_eq_false (by omega)) rfl ?_ | refine D.cmp rfl rfl rfl rfl rfl ?_) | refine D.no rfl rfl rfl rfl ?_
      refine D.pick rfl rfl rfl rfl rfl ?_
      refine D.move rfl rfl ?_
      first | (refine D.yes rfl rfl (by first | rfl | assumption) ?_; refine D.move rfl rfl ?_) | refine D.no rfl rfl rfl rfl ?_
      first | (refine D.yes rfl rfl (by first | rfl | assumption) ?_; refine D.index hE T27 rfl T5 rfl rfl (by first | exact newest_pv | exact newest_gl rfl rfl | trivial) rfl (by omega) (by first | assumption | rfl) rfl rfl rfl ?_) | refine D.no rfl rfl rfl rfl ?_
      first | (refine D.yes rfl rfl (by first | rfl | assumption) ?_; first | refine D.loadS hE T5 rfl rfl rfl (by rfl) rfl ?_ | refine D.loadE hE T5 rfl rfl (by rfl) rfl ?_ | refine D.load hE T5 rfl rfl rfl rfl ?_) | refine D.no rfl rfl rfl rfl ?_
      first | (refine D.yes rfl rfl (by first | rfl | assumption) ?_; first | refine D.cmp rfl rfl rfl (by first | exact decide_eq_true (by omega) | exact decide_eq_false (by omega)) rfl ?_ | refine D.cmp rfl rfl rfl rfl rfl ?_) | refine D.no rfl rfl rfl rfl ?_
      refine D.pick rfl rfl rfl rfl rfl ?_
      refine D.move rfl rfl ?_
      first | (refine D.yes rfl rfl (by first | rfl | assumption) ?_; refine D.move rfl rfl ?_) | refine D.no rfl rfl rfl rfl ?_
      first | (refine D.yes rfl rfl (by first | rfl | assumption) ?_; refine D.index hE T27 rfl T5 rfl rfl (by first | exact newest_pv | exact newest_gl rfl rfl | trivial) rfl (by omega) (by first | assumption | rfl) rfl rfl rfl ?_) | refine D.no rfl rfl rfl rfl ?_
      first | (refine D.yes rfl rfl (by first | rfl | assumption) ?_; first | refine D.loadS hE T5 rfl rfl rfl (by rfl) rfl ?_ | refine D.loadE hE T5 rfl rfl (by rfl) rfl ?_ | refine D.load hE T5 rfl rfl rfl rfl ?_) | refine D.no rfl rfl rfl rfl ?_
      first | (refine D.yes rfl rfl (by first | rfl | assumption) ?_; first | refine D.cmp rfl rfl rfl (by first | exact decide_eq_true (by omega) | exact decide_eq_false (by omega)) rfl ?_ | refine D.cmp rfl rfl rfl rfl rfl ?_) | refine D.no rfl rfl rfl rfl ?_
      refine D.pick rfl rfl rfl rfl rfl ?_
      refine D.move rfl rfl ?_
      first | (refine D.yes rfl rfl (by first | rfl | assumption) ?_; refine D.move rfl rfl ?_) | refine D.no rfl rfl rfl rfl ?_
      first | (refine D.yes rfl rfl (by first | rfl | assumption) ?_; refine D.index hE T27 rfl T5 rfl rfl (by first | exact newest_pv | exact newest_gl rfl rfl | trivial) rfl (by omega) (by first | assumption | rfl) rfl rfl rfl ?_) | refine D.no rfl rfl rfl rfl ?_
      first | (refine D.yes rfl rfl (by first | rfl | assumption) ?_; first | refine D.loadS hE T5 rfl rfl rfl (by rfl) rfl ?_ | refine D.loadE hE T5 rfl rfl (by rfl) rfl ?_ | refine D.load hE T5 rfl rfl rfl rfl ?_) | refine D.no rfl rfl rfl rfl ?_
      first | (refine D.yes rfl rfl (by first | rfl | assumption) ?_; first | refine D.cmp rfl rfl rfl (by first | exact decide_eq_true (by omega) | exact decide_eq_false (by omega)) rfl ?_ | refine D.cmp rfl rfl rfl rfl rfl ?_) | refine D.no rfl rfl rfl rfl ?_
      refine D.pick rfl rfl rfl rfl rfl ?_
      refine Dr.nil ?_
      refine ⟨rfl, ?_⟩
      try refine Run.keep [0, 2, 3, 4, 5, 6, 15, 20, 31, 46, 69, 82, 83, 103, 106, 138, 141, 185] rfl rfl ?_
      repeat (first | refine Run.seq ?_ | refine Run.skip ?_)
      first | refine Run.condT rfl rfl ?_ | refine Run.condF rfl rfl ?_ | refine Run.condT rfl (by assumption) ?_ | refine Run.condF rfl (by assumption) ?_
      rw [if_pos (by omega)] at hlead
      subst hlead
      repeat (first | refine Run.seq ?_ | refine Run.skip ?_ | refine Run.block ?_)
      refine Run.region ?_
      refine O.assign rfl rfl ?_
      refine O.nil ?_
      try refine Run.keep [0, 2, 3, 4, 5, 6, 15, 20, 31, 46, 69, 82, 83, 103, 106, 138, 141, 185] rfl rfl ?_
      refine Run.ret ?_
      repeat (first | refine thenR_ret ?_ | refine roundR_ret ?_ | refine blockR_ret ?_)
      exact Ends.flat hE (.inr rfl) rfl rfl (AVle.of_eq rfl) rfl
    repeat (first | refine Run.seq ?_ | refine Run.skip ?_ | refine Run.block ?_)
    refine Run.draw mixed rfl ?_
    refine D.move rfl rfl ?_
    refine D.lenLst hE T27 rfl rfl rfl newest_pv rfl ?_; dsimp only
    first | refine D.cmp rfl rfl rfl (by first | exact decide_eq_true (by omega) | exact decide_eq_false (by omega)) rfl ?_ | refine D.cmp rfl rfl rfl rfl rfl ?_
    refine D.move rfl rfl ?_
    first | (refine D.yes rfl rfl (by first | rfl | assumption) ?_; refine D.move rfl rfl ?_) | refine D.no rfl rfl rfl rfl ?_
    first | (refine D.yes rfl rfl (by first | rfl | assumption) ?_; refine D.index hE T27 rfl T5 rfl rfl (by first | exact newest_pv | exact newest_gl rfl rfl | trivial) rfl (by omega) (by first | assumption | rfl) rfl rfl rfl ?_) | refine D.no rfl rfl rfl rfl ?_
    first | (refine D.yes rfl rfl (by first | rfl | assumption) ?_; first | refine D.loadS hE T5 rfl rfl rfl (by rfl) rfl ?_ | refine D.loadE hE T5 rfl rfl (by rfl) rfl ?_ | refine D.load hE T5 rfl rfl rfl rfl ?_) | refine D.no rfl rfl rfl rfl ?_
    first | (refine D.yes rfl rfl (by first | rfl | assumption) ?_; refine D.field hE L95 rfl rfl rfl rfl ?_) | refine D.no rfl rfl rfl rfl ?_
    first | (refine D.yes rfl rfl (by first | rfl | assumption) ?_; first | refine D.loadS hE T5 rfl rfl rfl (by rfl) rfl ?_ | refine D.loadE hE T5 rfl rfl (by rfl) rfl ?_ | refine D.load hE T5 rfl rfl rfl rfl ?_) | refine D.no rfl rfl rfl rfl ?_
    first | (refine D.yes rfl rfl (by first | rfl | assumption) ?_; first | refine D.cmp rfl rfl rfl (by first | exact decide_eq_true (by omega) | exact decide_eq_false (by omega)) rfl ?_ | refine D.cmp rfl rfl rfl rfl rfl ?_) | refine D.no rfl rfl rfl rfl ?_
    refine D.pick rfl rfl rfl rfl rfl ?_
    refine D.move rfl rfl ?_
    first | (refine D.yes rfl rfl (by first | rfl | assumption) ?_; refine D.field hE L95 rfl rfl rfl rfl ?_) | refine D.no rfl rfl rfl rfl ?_
    first | (refine D.yes rfl rfl (by first | rfl | assumption) ?_; first | refine D.loadS hE T5 rfl rfl rfl (by rfl) rfl ?_ | refine D.loadE hE T5 rfl rfl (by rfl) rfl ?_ | refine D.load hE T5 rfl rfl rfl rfl ?_) | refine D.no rfl rfl rfl rfl ?_
    first | (refine D.yes rfl rfl (by first | rfl | assumption) ?_; refine D.move rfl rfl ?_) | refine D.no rfl rfl rfl rfl ?_
    first | (refine D.yes rfl rfl (by first | rfl | assumption) ?_; refine D.index hE T27 rfl T5 rfl rfl (by first | exact newest_pv | exact newest_gl rfl rfl | trivial) rfl (by omega) (by first | assumption | rfl) rfl rfl rfl ?_) | refine D.no rfl rfl rfl rfl ?_
    first | (refine D.yes rfl rfl (by first | rfl | assumption) ?_; first | refine D.loadS hE T5 rfl rfl rfl (by rfl) rfl ?_ | refine D.loadE hE T5 rfl rfl (by rfl) rfl ?_ | refine D.load hE T5 rfl rfl rfl rfl ?_) | refine D.no rfl rfl rfl rfl ?_
    first | (refine D.yes rfl rfl (by first | rfl | assumption) ?_; first | refine D.cmp rfl rfl rfl (by first | exact decide_eq_true (by omega) | exact decide_eq_false (by omega)) rfl ?_ | refine D.cmp rfl rfl rfl rfl rfl ?_) | refine D.no rfl rfl rfl rfl ?_
    refine D.pick rfl rfl rfl rfl rfl ?_
    refine D.move rfl rfl ?_
    first | (refine D.yes rfl rfl (by first | rfl | assumption) ?_; refine D.move rfl rfl ?_) | refine D.no rfl rfl rfl rfl ?_
    first | (refine D.yes rfl rfl (by first | rfl | assumption) ?_; refine D.index hE T27 rfl T5 rfl rfl (by first | exact newest_pv | exact newest_gl rfl rfl | trivial) rfl (by omega) (by first | assumption | rfl) rfl rfl rfl ?_) | refine D.no rfl rfl rfl rfl ?_
    first | (refine D.yes rfl rfl (by first | rfl | assumption) ?_; first | refine D.loadS hE T5 rfl rfl rfl (by rfl) rfl ?_ | refine D.loadE hE T5 rfl rfl (by rfl) rfl ?_ | refine D.load hE T5 rfl rfl rfl rfl ?_) | refine D.no rfl rfl rfl rfl ?_
    first | (refine D.yes rfl rfl (by first | rfl | assumption) ?_; first | refine D.cmp rfl rfl rfl (by first | exact decide_eq_true (by omega) | exact decide_eq_false (by omega)) rfl ?_ | refine D.cmp rfl rfl rfl rfl rfl ?_) | refine D.no rfl rfl rfl rfl ?_
    refine D.pick rfl rfl rfl rfl rfl ?_
    refine D.move rfl rfl ?_
    first | (refine D.yes rfl rfl (by first | rfl | assumption) ?_; refine D.move rfl rfl ?_) | refine D.no rfl rfl rfl rfl ?_
    first | (refine D.yes rfl rfl (by first | rfl | assumption) ?_; refine D.index hE T27 rfl T5 rfl rfl (by first | exact newest_pv | exact newest_gl rfl rfl | trivial) rfl (by omega) (by first | assumption | rfl) rfl rfl rfl ?_) | refine D.no rfl rfl rfl rfl ?_
    first | (refine D.yes rfl rfl (by first | rfl | assumption) ?_; first | refine D.loadS hE T5 rfl rfl rfl (by rfl) rfl ?_ | refine D.loadE hE T5 rfl rfl (by rfl) rfl ?_ | refine D.load hE T5 rfl rfl rfl rfl ?_) | refine D.no rfl rfl rfl rfl ?_
    first | (refine D.yes rfl rfl (by first | rfl | assumption) ?_; first | refine D.cmp rfl rfl rfl (by first | exact decide_eq_true (by omega) | exact decide_eq_false (by omega)) rfl ?_ | refine D.cmp rfl rfl rfl rfl rfl ?_) | refine D.no rfl rfl rfl rfl ?_
    refine D.pick rfl rfl rfl rfl rfl ?_
    refine D.move rfl rfl ?_
    first | (refine D.yes rfl rfl (by first | rfl | assumption) ?_; refine D.move rfl rfl ?_) | refine D.no rfl rfl rfl rfl ?_
    first | (refine D.yes rfl rfl (by first | rfl | assumption) ?_; refine D.index hE T27 rfl T5 rfl rfl (by first | exact newest_pv | exact newest_gl rfl rfl | trivial) rfl (by omega) (by first | assumption | rfl) rfl rfl rfl ?_) | refine D.no rfl rfl rfl rfl ?_
    first | (refine D.yes rfl rfl (by first | rfl | assumption) ?_; first | refine D.loadS hE T5 rfl rfl rfl (by rfl) rfl ?_ | refine D.loadE hE T5 rfl rfl (by rfl) rfl ?_ | refine D.load hE T5 rfl rfl rfl rfl ?_) | refine D.no rfl rfl rfl rfl ?_
    first | (refine D.yes rfl rfl (by first | rfl | assumption) ?_; first | refine D.cmp rfl rfl rfl (by first | exact decide_eq_true (by omega) | exact decide_eq_false (by omega)) rfl ?_ | refine D.cmp rfl rfl rfl rfl rfl ?_) | refine D.no rfl rfl rfl rfl ?_
    refine D.pick rfl rfl rfl rfl rfl ?_
    refine D.move rfl rfl ?_
    first | (refine D.yes rfl rfl (by first | rfl | assumption) ?_; refine D.move rfl rfl ?_) | refine D.no rfl rfl rfl rfl ?_
    first | (refine D.yes rfl rfl (by first | rfl | assumption) ?_; refine D.index hE T27 rfl T5 rfl rfl (by first | exact newest_pv | exact newest_gl rfl rfl | trivial) rfl (by omega) (by first | assumption | rfl) rfl rfl rfl ?_) | refine D.no rfl rfl rfl rfl ?_
    first | (refine D.yes rfl rfl (by first | rfl | assumption) ?_; first | refine D.loadS hE T5 rfl rfl rfl (by rfl) rfl ?_ | refine D.loadE hE T5 rfl rfl (by rfl) rfl ?_ | refine D.load hE T5 rfl rfl rfl rfl ?_) | refine D.no rfl rfl rfl rfl ?_
    first | (refine D.yes rfl rfl (by first | rfl | assumption) ?_; first | refine D.cmp rfl rfl rfl (by first | exact decide_eq_true (by omega) | exact decide_eq_false (by omega)) rfl ?_ | refine D.cmp rfl rfl rfl rfl rfl ?_) | refine D.no rfl rfl rfl rfl ?_
    refine D.pick rfl rfl rfl rfl rfl ?_
    refine Dr.nil ?_
    refine ⟨rfl, ?_⟩
    try refine Run.keep [0, 2, 3, 4, 5, 6, 15, 20, 31, 46, 69, 82, 83, 103, 106, 138, 141, 185] rfl rfl ?_
    repeat (first | refine Run.seq ?_ | refine Run.skip ?_)
    first | refine Run.condT rfl rfl ?_ | refine Run.condF rfl rfl ?_ | refine Run.condT rfl (by assumption) ?_ | refine Run.condF rfl (by assumption) ?_
    rw [if_neg (by omega)] at hlead
    have hyk := tb_drop t 4
    have lk : (t.drop 4).length = t.length - 4 := List.length_drop
    dsimp only at hlead
    repeat (first | refine Run.seq ?_ | refine Run.skip ?_ | refine Run.block ?_)
    refine Run.region ?_
    refine O.move rfl rfl ?_
    refine O.slice hE T27 rfl T5 rfl rfl newest_pv rfl rfl rfl (by omega) (by rw [hm]; omega) (by omega) hyk rfl ?_
    refine O.assign rfl rfl ?_
    refine O.nil ?_
    try refine Run.keep [0, 2, 3, 4, 5, 6, 15, 20, 31, 46, 69, 82, 83, 103, 106, 138, 141, 185] rfl rfl ?_
    exact ih (t.drop 4) _ (SLe.drop (by repeat (first | exact TmIn.nil | refine TmIn.cons rfl ?_)) (by repeat (first | exact BxIn.nil | refine BxIn.cons rfl ?_)) rfl rfl) ⟨hlead.symm, by omega⟩ (by omega)
  rw [if_neg s4] at hlead
  dsimp only at hlead
  subst hlead
  repeat (first | refine Run.seq ?_ | refine Run.skip ?_ | refine Run.block ?_)
  refine Run.region ?_
  first | refine O.cmp rfl rfl rfl (by first | exact decide_eq_true (by omega) | exact decide_eq_false (by omega)) rfl ?_ | refine O.cmp rfl rfl rfl rfl rfl ?_
  refine O.assign rfl rfl ?_
  refine O.nil ?_
  try refine Run.keep [0, 2, 3, 4, 5, 6, 15, 20, 31, 46, 69, 82, 83, 103, 106, 138, 141, 185] rfl rfl ?_
  repeat (first | refine Run.seq ?_ | refine Run.skip ?_)
  first | refine Run.condT rfl rfl ?_ | refine Run.condF rfl rfl ?_ | refine Run.condT rfl (by assumption) ?_ | refine Run.condF rfl (by assumption) ?_
  repeat (first | refine Run.seq ?_ | refine Run.skip ?_ | refine Run.block ?_)
  refine Run.region ?_
  first | refine O.cmp rfl rfl rfl (by first | exact decide_eq_true (by omega) | exact decide_eq_false (by omega)) rfl ?_ | refine O.cmp rfl rfl rfl rfl rfl ?_
  refine O.assign rfl rfl ?_
  refine O.nil ?_
  try refine Run.keep [0, 2, 3, 4, 5, 6, 15, 20, 31, 46, 69, 82, 83, 103, 106, 138, 141, 185] rfl rfl ?_
  repeat (first | refine Run.seq ?_ | refine Run.skip ?_)
  first | refine Run.condT rfl rfl ?_ | refine Run.condF rfl rfl ?_ | refine Run.condT rfl (by assumption) ?_ | refine Run.condF rfl (by assumption) ?_
  repeat (first | refine Run.seq ?_ | refine Run.skip ?_ | refine Run.block ?_)
  refine Run.region ?_
  first | refine O.cmp rfl rfl rfl (by first | exact decide_eq_true (by omega) | exact decide_eq_false (by omega)) rfl ?_ | refine O.cmp rfl rfl rfl rfl rfl ?_
  refine O.assign rfl rfl ?_
  refine O.nil ?_
  try refine Run.keep [0, 2, 3, 4, 5, 6, 15, 20, 31, 46, 69, 82, 83, 103, 106, 138, 141, 185] rfl rfl ?_
  repeat (first | refine Run.seq ?_ | refine Run.skip ?_)
  first | refine Run.condT rfl rfl ?_ | refine Run.condF rfl rfl ?_ | refine Run.condT rfl (by assumption) ?_ | refine Run.condF rfl (by assumption) ?_
  repeat (first | refine Run.seq ?_ | refine Run.skip ?_ | refine Run.block ?_)
  refine Run.region ?_
  refine O.assign rfl rfl ?_
  refine O.nil ?_
  try refine Run.keep [0, 2, 3, 4, 5, 6, 15, 20, 31, 46, 69, 82, 83, 103, 106, 138, 141, 185] rfl rfl ?_
  refine Run.ret ?_
  repeat (first | refine thenR_ret ?_ | refine roundR_ret ?_ | refine blockR_ret ?_)
  exact Ends.flat hE (.inr rfl) rfl rfl (AVle.of_eq rfl) rfl
end Go.Proofs.YtalcpfpjkfpmbaaDoor.Vm
