/- SumParts: the walk of the law's function. Conditions: the table of steps, as the program lays it. -/
import Derived.Test.YtcbdhdblchmofaaDoorShaS
import Derived.ChangeKeysEq
import Derived.Laws.StructEq
namespace Go.Proofs.YtcbdhdblchmofaaDoor.Vm
open Go Go.RowKit
set_option linter.unusedVariables false
set_option linter.unusedSimpArgs false
attribute [local irreducible] Ops Dr Run feedP endP sumP macP
section
variable {P : Program} {w : World}
theorem part_int {e : TypeId} {k : IntKind} (he : P.underlying e = some (.int k)) {xs : Array Value} {o : Nat} {v : Value} (h : xs[o]? = some v) : (part e xs o).run P w = .ok v w :=
  run_part_plain w (by simp [Program.plainKey, he]) h
theorem eq_int {e : TypeId} {k : IntKind} (he : P.underlying e = some (.int k)) (d : Nat) (z : Int) : (Op.equalIn (d + 1) e (.int k z) (.int k z)).run P w = .ok true w := by
  unfold Op.equalIn
  rw [Sem.run_bind, run_underlying he w]
  simp only [Result.andThen_ok, if_true]
  simp [Sem.run]
theorem eq_items {e : TypeId} {k : IntKind} (he : P.underlying e = some (.int k)) (hc : P.cellsOf e = 1) (d : Nat) (xs : Array Value) : ∀ is : List Nat, (∀ i ∈ is, ∃ z, xs[i]? = some (.int k z)) → (Op.eqItems (d + 1) e (P.cellsOf e) xs xs is).run P w = .ok true w
  | [], _ => by simp [Op.eqItems]
  | i :: is, h => by
    obtain ⟨z, hz⟩ := h i (by simp)
    have h1 : (part e xs (i * P.cellsOf e)).run P w = .ok (.int k z) w := part_int he (by rw [hc, Nat.mul_one]; exact hz)
    simp only [Op.eqItems, Sem.run_bind, h1, Result.andThen_ok, eq_int he d z]
    simpa using eq_items he hc d xs is (fun i hi => h i (by simp [hi]))
theorem eq_array {t e : TypeId} {k : IntKind} {n : Nat} {i : TypeInfo} (ht : P.underlying t = some (.array n e)) (he : P.underlying e = some (.int k)) (hi : P.info? e = some i) (hc : P.cellsOf e = 1) (d : Nat) (xs : Array Value) (h : ∀ j, j < n → ∃ z, xs[j]? = some (.int k z)) : (Op.equalIn (d + 2) t (.agg xs) (.agg xs)).run P w = .ok true w := by
  rw [run_equalIn_array (P := P) w (d + 1) xs xs ht hi]
  exact eq_items he hc d xs _ (fun j hj => h j (List.mem_range.1 hj))
theorem part_arr {t e : TypeId} {n : Nat} {i : TypeInfo} (ht : P.underlying t = some (.array n e)) (hi : P.info? t = some i) (hs : i.size = n) {xs : Array Value} {o : Nat} : (part t xs o).run P w = .ok (.agg (xs.extract o (o + n))) w := by
  unfold part
  have h1 : (isAgg t).run P w = .ok true w := by
    unfold isAgg
    rw [Sem.run_bind, run_underlying ht w]
    rfl
  have h2 : (sizeOf t).run P w = .ok n w := by simp [sizeOf, typeInfo, hi, hs]
  simp [Sem.run_bind, h1, h2, Result.andThen]
theorem eqf {d : Nat} {xs : Array Value} {f : Field} {fs : List Field} {a : Value} (hn : (f.name == "_") = false) (ha : (part f.type xs f.offset).run P w = .ok a w) (he : (Op.equalIn d f.type a a).run P w = .ok true w) (hr : (Op.eqFields d xs xs fs).run P w = .ok true w) : (Op.eqFields d xs xs (f :: fs)).run P w = .ok true w := by
  have hn' : f.name ≠ "_" := by simpa using hn
  rw [Op.eqFields]
  simp only [if_pos hn', Sem.run_bind, ha, he, Result.andThen_ok]
  simpa using hr
end
theorem eqS {P : Program} {w : World} {d : Nat} {xs ys : Array Value} {r : Bool} {t : TypeId} {fs : Array Field} (hu : P.underlying t = some (.struct fs)) (hp : P.stoodInHeld t = false) (h : (Op.eqFields d xs ys fs.toList).run P w = .ok r w) : (Op.equalIn (d + 1) t (.agg xs) (.agg ys)).run P w = .ok r w := by
  have hf : P.fieldsOf t = fs := by simp [Program.fieldsOf, hu]
  rw [run_equalIn_struct (P := P) w d t xs ys (by rw [hf]; exact hu) hp, hf]
  exact h
theorem vals_app : ∀ (a b : List AV) (u v : List Value), vals? a = some u → vals? b = some v → vals? (a ++ b) = some (u ++ v)
  | [], b, u, v, h, k => by obtain rfl := Option.some.inj h; exact k
  | x :: a, b, u, v, h, k => by
    simp only [vals?] at h
    split at h
    · rename_i y ys h1 h2
      obtain rfl := Option.some.inj h
      simp only [List.cons_append, vals?, h1, vals_app a b ys v h2 k]
    · cases h
def strmV (H B : List Int) (N L : Int) : List Value := H.map (Value.int .u32) ++ (B.map (Value.int .u8) ++ [.int .i64 N, .int .i64 L])
theorem vals_strm (H B : List Int) (N L : Int) : vals? (strm H B N L) = some (strmV H B N L) :=
  vals_app _ _ _ _ (vals_ints H) (vals_app _ _ _ _ (vals_ints B) rfl)
section
variable {E : Env} {n : Nat} {tm : List (Nat × AV)} {bx : List (Nat × Box)} {ops : Array Oper} {l : List Oper} {d : Tmp} {ty : TypeId} {pos : String} {after : Array Edge}
theorem OpOk.eqAgg {P : Program} {g : Nat → Option (List PV)} {s : St} {dst : Option Tmp} {t t' : TypeId} {y z : Operand} {gd : Option (Nat × Bool)} {cs : List AV} {us : List Value} (hy : s.ev g y = .agg cs) (hz : s.ev g z = .agg cs) (hv : vals? cs = some us) (hg0 : P.eqGuardType P.depth t = false) (hq : ∀ w, (Op.equalIn 10000 t (.agg us.toArray) (.agg us.toArray)).run P w = .ok true w)
    (hd : ∀ t, dst = some t → t < s.n) : OpOk P g ⟨dst, .binOp .eql t y z t', ty, pos, after, gd⟩ s (s.putO dst (.pv (.bool true))) := by
  refine OpOk.val (o := ⟨dst, .binOp .eql t y z t', ty, pos, after, gd⟩) hd (fun cx a w G hP hg hs => ⟨.bool true, ?_, .pv _ _ (.bool _)⟩)
  have h1 := hs.ev hg y
  have h2 := hs.ev hg z
  rw [hy] at h1
  rw [hz] at h2
  have hf : (AV.agg cs).flat? = some (.agg us.toArray) := by simp [AV.flat?, hv]
  have e1 : a.eval y = .agg us.toArray := h1.of_flat hf
  have e2 : a.eval z = .agg us.toArray := h2.of_flat hf
  subst hP
  simp only [execOp, e1, e2, Sem.run_bind, run_eqGuard_agg (P := cx.P) w .eql t y z us.toArray us.toArray hg0, Result.andThen_ok, run_eql_struct, hq w, Sem.run_pure]
theorem D.eqAgg {Θ : List Rec → St → Prop} {t t' : TypeId} {y z : Operand} {cs : List AV} {us : List Value} (hy : evO E tm y = some (.agg cs)) (hz : evO E tm z = some (.agg cs)) (hv : vals? cs = some us) (hg0 : E.P.eqGuardType E.P.depth t = false) (hq : ∀ w, (Op.equalIn 10000 t (.agg us.toArray) (.agg us.toArray)).run E.P w = .ok true w) (hd : Nat.blt d n = true)
    (h : Dr E.P E.g ops l ⟨n, (d, .pv (.bool true)) :: tm, bx⟩ (fun rs => Θ (⟨rtOf y (.agg cs) ++ rtOf z (.agg cs), [], [], some d, .pv (.bool true), []⟩ :: rs))) : Dr E.P E.g ops (⟨some d, .binOp .eql t y z t', ty, pos, after, none⟩ :: l) ⟨n, tm, bx⟩ Θ :=
  D.of (rt := rtOf y (.agg cs) ++ rtOf z (.agg cs)) (rb := []) (fun w hw => by
      rcases List.mem_append.1 hw with hw | hw
      · exact rt_now hy w hw
      · exact rt_now hz w hw) none_met hd (fun s hs _ hd' => OpOk.eqAgg (s := s) (evO_ok (n := s.n) (bx := s.bx) (rt_ev hy (fun p hp => hs p (mem_l hp)))) (evO_ok (n := s.n) (bx := s.bx) (rt_ev hz (fun p hp => hs p (mem_r hp)))) hv hg0 hq (fun t ht => by obtain rfl := Option.some.inj ht; exact hd')) h
end
theorem eq25 (R : List Int) (hR : R.length = 32) (w : World) : (Op.equalIn 10000 25 (.agg (R.map (Value.int .u8)).toArray) (.agg (R.map (Value.int .u8)).toArray)).run Tryd.prog w = .ok true w := by
  obtain ⟨i, hi⟩ := info_of_underlying Tryd.underlying5
  exact eq_array (n := 32) Tryd.underlying25 Tryd.underlying5 hi (by kernel_rfl) 9998 _ (fun j hj => ⟨R[j]'(by omega), by simp [show j < R.length by omega]⟩)
theorem strmV_len {H B : List Int} {N L : Int} (hH : H.length = 8) (hB : B.length = 64) : (strmV H B N L).length = 74 := by simp [strmV, hH, hB]
theorem strmV_H {H B : List Int} {N L : Int} {j : Nat} (hH : H.length = 8) (hj : j < 8) : (strmV H B N L)[j]? = some (.int .u32 (H[j]'(by omega))) := by
  unfold strmV
  rw [List.getElem?_append_left (by simp [hH]; omega)]
  simp [List.getElem?_eq_getElem (show j < H.length by omega)]
theorem strmV_B {H B : List Int} {N L : Int} {j : Nat} (hH : H.length = 8) (hB : B.length = 64) (hj : j < 64) : (strmV H B N L)[8 + j]? = some (.int .u8 (B[j]'(by omega))) := by
  unfold strmV
  rw [List.getElem?_append_right (by simp [hH]), List.length_map, hH, Nat.add_sub_cancel_left, List.getElem?_append_left (by simp [hB]; omega)]
  simp [List.getElem?_eq_getElem (show j < B.length by omega)]
theorem strmV_N {H B : List Int} {N L : Int} (hH : H.length = 8) (hB : B.length = 64) : (strmV H B N L)[72]? = some (.int .i64 N) ∧ (strmV H B N L)[73]? = some (.int .i64 L) := by
  unfold strmV
  constructor
  · rw [List.getElem?_append_right (by simp [hH]), List.length_map, hH, List.getElem?_append_right (by simp [hB]), List.length_map, hB]; rfl
  · rw [List.getElem?_append_right (by simp [hH]), List.length_map, hH, List.getElem?_append_right (by simp [hB]), List.length_map, hB]; rfl
theorem eq39 {H B : List Int} {N L : Int} (hH : H.length = 8) (hB : B.length = 64) (w : World) : (Op.equalIn 10000 39 (.agg (strmV H B N L).toArray) (.agg (strmV H B N L).toArray)).run Tryd.prog w = .ok true w := by
  refine eqS (d := 9999) Tryd.underlying39 (by kernel_rfl) ?_
  obtain ⟨i36, h36⟩ := info_of_underlying Tryd.underlying36
  obtain ⟨i37, h37⟩ := info_of_underlying Tryd.underlying37
  obtain ⟨i29, h29⟩ := info_of_underlying Tryd.underlying29
  obtain ⟨i5, h5⟩ := info_of_underlying Tryd.underlying5
  have s36 : i36.size = 8 := by
    have : Tryd.prog.cellsOf 36 = 8 := by kernel_rfl
    simpa [Program.cellsOf, h36] using this
  have s37 : i37.size = 64 := by
    have : Tryd.prog.cellsOf 37 = 64 := by kernel_rfl
    simpa [Program.cellsOf, h37] using this
  have hl := strmV_len (N := N) (L := L) hH hB
  refine eqf rfl (part_arr Tryd.underlying36 h36 s36) ?_ ?_
  · exact eq_array (n := 8) Tryd.underlying36 Tryd.underlying29 h29 (by kernel_rfl) 9997 _ (fun j hj => ⟨H[j]'(by omega), by
      have := strmV_H (B := B) (N := N) (L := L) hH hj
      simp [Array.getElem?_extract, hl, hj]
      exact (List.getElem?_eq_some_iff.1 this).2⟩)
  refine eqf rfl (part_arr Tryd.underlying37 h37 s37) ?_ ?_
  · exact eq_array (n := 64) Tryd.underlying37 Tryd.underlying5 h5 (by kernel_rfl) 9997 _ (fun j hj => ⟨B[j]'(by omega), by
      have := strmV_B (N := N) (L := L) hH hB hj
      simp [Array.getElem?_extract, hl, hj]
      exact (List.getElem?_eq_some_iff.1 this).2⟩)
  obtain ⟨n1, n2⟩ := strmV_N (N := N) (L := L) hH hB
  refine eqf rfl (part_int Tryd.underlying3 (by simpa using n1)) (eq_int Tryd.underlying3 9998 N) ?_
  refine eqf rfl (part_int Tryd.underlying3 (by simpa using n2)) (eq_int Tryd.underlying3 9998 L) ?_
  simp [Op.eqFields, Sem.run]
/-- The package variables: the table of steps. -/
def gK : Nat → Option (List PV) := numsG 0 .u32 stepsL
theorem feedsK : Feeds gK (turnP stepsL) := feeds (fun H B h1 h2 => turn_exact (ks := stepsL) rfl steps_len H B h1 h2)
theorem fnTells : FnC (En Tryd.prog gK) 21 [] (.pv (.bool true)) [] := by
  have hE := EnOk gK
  have c1 := fnSum feedsK (b := [97, 98, 99]) (by decide)
  have c2 := fnMac feedsK (q := [74, 101, 102, 101]) (b := [119, 104, 97, 116, 32, 100, 111, 32, 121, 97, 32, 119, 97, 110, 116, 32, 102, 111, 114, 32, 110, 111, 116, 104, 105, 110, 103, 63]) (by decide) (by decide)
  have l1 := sumP_len (T := turnP stepsL) [97, 98, 99]
  have l2 := macP_len (T := turnP stepsL) [74, 101, 102, 101] [119, 104, 97, 116, 32, 100, 111, 32, 121, 97, 32, 119, 97, 110, 116, 32, 102, 111, 114, 32, 110, 111, 116, 104, 105, 110, 103, 63]
  have t1 := tells_sum
  have t2 := tells_mac
  generalize sumP (turnP stepsL) [97, 98, 99] = R1 at *
  generalize macP (turnP stepsL) [74, 101, 102, 101] _ = R2 at *
  refine FnC.of Tryd.func21 rfl rfl rfl rfl ?_
  repeat (first | refine Run.seq ?_ | refine Run.skip ?_ | refine Run.block ?_)
  refine Run.region ?_
  refine O.assign rfl rfl ?_
  refine O.nil ?_
  try refine Run.keep [0, 1, 2] rfl rfl ?_
  repeat (first | refine Run.seq ?_ | refine Run.skip ?_ | refine Run.block ?_)
  refine Run.region ?_
  refine O.lit2 hE T27 rfl T5 rfl rfl rfl rfl rfl rfl rfl rfl rfl ?_
  refine O.callE c1 rfl (by first | rfl | simp [closed, men3, mens2_app, mens2_ints, mens2, men2, men1, mens1_app, mens1_ints, mens1]) (by first | rfl | simp [d2, ds1_ints, ds1_app, ds1, d1, ds0_app, ds0_ints, ds0, d0]) rfl ?_
  first | refine O.allocS hE 1 T25 ints_zero rfl rfl ?_ | refine O.alloc hE 1 T25 rfl rfl rfl ?_
  first | refine O.storeS hE T25 rfl rfl (by first | rfl | exact cells_ones (by simp [ones_app, ones_ints, ones, AV.one, PV.one])) rfl (by first | rfl | simp [ints_len, *]) (by simp [ints_len, *] <;> omega) (by first | exact setAt_all _ _ (by simp [ints_len, *]) | exact setAt_all _ _ (by unfold strm; simp [ints_len, *])) ?_ | refine O.store hE T25 rfl rfl rfl rfl rfl rfl ?_
  refine O.nil ?_
  try refine Run.keep [0, 1, 2] rfl rfl ?_
  repeat (first | refine Run.seq ?_ | refine Run.skip ?_ | refine Run.block ?_)
  refine Run.region ?_
  refine O.lit2 hE T27 rfl T5 rfl rfl rfl rfl rfl rfl rfl rfl rfl ?_
  refine O.lit2 hE T27 rfl T5 rfl rfl rfl rfl rfl rfl rfl rfl rfl ?_
  refine O.callE c2 rfl (by first | rfl | simp [closed, men3, mens2_app, mens2_ints, mens2, men2, men1, mens1_app, mens1_ints, mens1]) (by first | rfl | simp [d2, ds1_ints, ds1_app, ds1, d1, ds0_app, ds0_ints, ds0, d0]) rfl ?_
  first | refine O.allocS hE 2 T25 ints_zero rfl rfl ?_ | refine O.alloc hE 2 T25 rfl rfl rfl ?_
  first | refine O.storeS hE T25 rfl rfl (by first | rfl | exact cells_ones (by simp [ones_app, ones_ints, ones, AV.one, PV.one])) rfl (by first | rfl | simp [ints_len, *]) (by simp [ints_len, *] <;> omega) (by first | exact setAt_all _ _ (by simp [ints_len, *]) | exact setAt_all _ _ (by unfold strm; simp [ints_len, *])) ?_ | refine O.store hE T25 rfl rfl rfl rfl rfl rfl ?_
  refine O.nil ?_
  try refine Run.keep [0, 1, 2] rfl rfl ?_
  repeat (first | refine Run.seq ?_ | refine Run.skip ?_ | refine Run.block ?_)
  refine Run.region ?_
  first | refine O.ixS hE T25 rfl T5 rfl rfl rfl (by omega) (by omega) rfl ?_ | refine O.ixE hE T25 rfl T5 rfl (glo_ev (by assumption)) rfl (by omega) (by omega) rfl ?_
  first | refine O.loadS hE T5 rfl rfl rfl (by first | exact st73 (by assumption) (by assumption) | exact st72 (by assumption) (by assumption) | exact ints_at (by omega)) rfl ?_ | refine O.loadE hE T5 rfl rfl (by rfl) rfl ?_ | refine O.load hE T5 rfl rfl rfl rfl ?_
  first | refine O.cmp rfl rfl rfl (by first | exact decide_eq_true (by omega) | exact decide_eq_false (by omega)) rfl ?_ | refine O.cmp rfl rfl rfl rfl rfl ?_
  refine O.move rfl rfl ?_
  first | (refine O.yes rfl rfl (by first | rfl | assumption) ?_; first | refine O.ixS hE T25 rfl T5 rfl rfl rfl (by omega) (by omega) rfl ?_ | refine O.ixE hE T25 rfl T5 rfl (glo_ev (by assumption)) rfl (by omega) (by omega) rfl ?_) | refine O.no rfl rfl rfl rfl ?_
  first | (refine O.yes rfl rfl (by first | rfl | assumption) ?_; first | refine O.loadS hE T5 rfl rfl rfl (by first | exact st73 (by assumption) (by assumption) | exact st72 (by assumption) (by assumption) | exact ints_at (by omega)) rfl ?_ | refine O.loadE hE T5 rfl rfl (by rfl) rfl ?_ | refine O.load hE T5 rfl rfl rfl rfl ?_) | refine O.no rfl rfl rfl rfl ?_
  first | (refine O.yes rfl rfl (by first | rfl | assumption) ?_; first | refine O.cmp rfl rfl rfl (by first | exact decide_eq_true (by omega) | exact decide_eq_false (by omega)) rfl ?_ | refine O.cmp rfl rfl rfl rfl rfl ?_) | refine O.no rfl rfl rfl rfl ?_
  refine O.pick rfl rfl rfl rfl rfl ?_
  refine O.assign rfl rfl ?_
  refine O.nil ?_
  try refine Run.keep [0, 1, 2] rfl rfl ?_
  (repeat (first | refine Run.seq ?_ | refine Run.skip ?_)); (try refine Run.ret ?_); first | exact Ends.flat hE (.inr rfl) rfl rfl (AVle.of_eq rfl) rfl | exact Ends.flat hE (.inl rfl) rfl rfl (AVle.of_eq rfl) rfl
section
variable {E : Env} {n : Nat} {tm : List (Nat × AV)} {bx : List (Nat × Box)} {ops : Array Oper} {l : List Oper} {d : Tmp} {ty : TypeId} {pos : String} {after : Array Edge}
theorem rts_ev {s : St} : ∀ {ys : List Operand} {x : Operand} {v : AV}, x ∈ ys → evO E tm x = some v → (∀ p ∈ rtsOf E tm ys, look s.tm p.1 = some p.2) → evO E s.tm x = some v
  | y :: ys, x, v, hm, hv, hs => by
    have tail : ∀ p ∈ rtsOf E tm ys, look s.tm p.1 = some p.2 := fun p hp => hs p (by
      cases y with
      | tmp t =>
        simp only [rtsOf]
        split
        · exact List.mem_cons_of_mem _ hp
        · exact hp
      | const v => exact hp
      | global k => exact hp
      | func f => exact hp)
    rcases List.mem_cons.1 hm with rfl | hm
    · cases x with
      | tmp t => exact hs (t, v) (by simp only [rtsOf]; rw [show look tm t = some v from hv]; simp)
      | const c => exact hv
      | global k => exact hv
      | func f => exact hv
    · exact rts_ev hm hv tail
theorem bnd_rts {s : St} {ys : List Operand} {dd m : Int} {x : Option Operand} (h : bndO E tm dd x = some m) (hm : ∀ y, x = some y → y ∈ ys) (hs : ∀ p ∈ rtsOf E tm ys, look s.tm p.1 = some p.2) : bndO E s.tm dd x = some m := by
  cases x with
  | none => exact h
  | some y =>
    simp only [bndO] at h ⊢
    split at h
    · rename_i k m' hy
      rw [rts_ev (hm y rfl) hy hs]
      exact h
    · cases h
theorem D.sliceP {Θ : List Rec → St → Prop} {t e : TypeId} {y : Operand} {lo hi : Option Operand} {i ie : TI} {sz : Nat} {xs ys : List PV} {a b : Int} (hE : E.Ok) (ht : E.T t = some i) (hk : i.desc = .slc e) (he : E.T e = some ie) (hy : evO E tm y = some (.pv (.lst sz xs))) (hsz : sz = ie.size) (hlo : bndO E tm 0 lo = some a) (hhi : bndO E tm xs.length hi = some b)
    (h0 : 0 ≤ a) (h1 : a ≤ b) (h2 : b ≤ xs.length) (hys : (xs.take b.toNat).drop a.toNat = ys) (hd : Nat.blt d n = true)
    (h : Dr E.P E.g ops l ⟨n, (d, .pv (.lst sz ys)) :: tm, bx⟩ (fun rs => Θ (⟨rtsOf E tm (y :: (lo.toList ++ hi.toList)), [], [], some d, .pv (.lst sz ys), []⟩ :: rs))) : Dr E.P E.g ops (⟨some d, .slice t y lo hi none, ty, pos, after, none⟩ :: l) ⟨n, tm, bx⟩ Θ :=
  D.of (rt := rtsOf E tm (y :: (lo.toList ++ hi.toList))) (rb := []) (rts_now _) none_met hd (fun s hs _ hd' => OpOk.sliceLst (s := s) (hE.t _ _ ht) hk (hE.t _ _ he) (evO_ok (n := s.n) (bx := s.bx) (rts_ev (by simp) hy hs)) rfl hsz (bndO_ok (n := s.n) (bx := s.bx) (bnd_rts hlo (fun z hz => by subst hz; simp) hs)) (bndO_ok (n := s.n) (bx := s.bx) (bnd_rts hhi (fun z hz => by subst hz; simp) hs)) h0 h1 h2 hys (fun t ht => by obtain rfl := Option.some.inj ht; exact hd')) h
theorem O.minI {Θ : St → Prop} {x y : Operand} {ts : Array TypeId} {k k' : IntKind} {m j r : Int} (hx : evO E tm x = some (.pv (.int k m))) (hy : evO E tm y = some (.pv (.int k' j))) (hr : (if j < m then j else m) = r) (hd : Nat.blt d n = true) (h : Ops E.P E.g ops l ⟨n, (d, .pv (.int k r)) :: tm, bx⟩ Θ) :
    Ops E.P E.g ops (⟨some d, .call { callee := .builtin .min, args := #[x, y], argTypes := ts }, ty, pos, after, none⟩ :: l) ⟨n, tm, bx⟩ Θ := by
  subst hr
  exact O.min hx hy hd h
end
theorem tmod_pick {a m : Int} (hm : 0 < m) : (a.tmod m < 0 → a.tmod m + m = a % m) ∧ (¬ a.tmod m < 0 → a.tmod m = a % m) := by
  have h1 := Int.emod_nonneg a (show m ≠ 0 by omega)
  have h2 := Int.emod_lt_of_pos a hm
  rw [Int.tmod_eq_emod]
  split <;> omega
theorem fnPick {g : Nat → Option (List PV)} {a m : Int} (h0 : 0 < m) (h1 : m < 4611686018427387904) : FnC (En Tryd.prog g) 13 [.pv (.int .i64 a), .pv (.int .i64 m)] (.pv (.int .i64 (a % m))) [] := by
  have hE := EnOk g
  obtain ⟨p1, p2⟩ := tmod_pick (a := a) h0
  have hlt : a.tmod m < m := Int.tmod_lt_of_pos a h0
  have hgt : -m < a.tmod m := by
    by_cases c : a.tmod m < 0
    · have := p1 c; have := Int.emod_nonneg a (show m ≠ 0 by omega); have := Int.emod_lt_of_pos a h0
      by_cases e : a.tmod m = -m
      · have h3 : a % m = 0 := by omega
        have h4 : a.tmod m = 0 := Int.tmod_eq_zero_of_dvd (Int.dvd_of_emod_eq_zero h3)
        omega
      · omega
    · omega
  refine FnC.of Tryd.func13 rfl rfl rfl rfl ?_
  repeat (first | refine Run.seq ?_ | refine Run.skip ?_ | refine Run.block ?_)
  refine Run.region ?_
  refine O.assign rfl rfl ?_
  refine O.nil ?_
  try refine Run.keep [0, 1, 4, 9] rfl rfl ?_
  repeat (first | refine Run.seq ?_ | refine Run.skip ?_ | refine Run.block ?_)
  refine Run.region ?_
  refine O.move rfl rfl ?_
  refine O.move rfl rfl ?_
  refine O.rem rfl rfl (by omega) rfl ?_
  refine O.assign rfl rfl ?_
  refine O.nil ?_
  try refine Run.keep [0, 1, 4, 9] rfl rfl ?_
  by_cases hc : a.tmod m < 0
  ·
    have e := p1 hc
    repeat (first | refine Run.seq ?_ | refine Run.skip ?_ | refine Run.block ?_)
    refine Run.region ?_
    refine O.move rfl rfl ?_
    first | refine O.cmp rfl rfl rfl (by first | exact decide_eq_true (by omega) | exact decide_eq_false (by omega)) rfl ?_ | refine O.cmp rfl rfl rfl rfl rfl ?_
    refine O.nil ?_
    try refine Run.keep [0, 1, 4, 9] rfl rfl ?_
    repeat (first | refine Run.seq ?_ | refine Run.skip ?_)
    first | refine Run.condT rfl rfl ?_ | refine Run.condF rfl rfl ?_ | refine Run.condT rfl (by assumption) ?_ | refine Run.condF rfl (by assumption) ?_
    repeat (first | refine Run.seq ?_ | refine Run.skip ?_ | refine Run.block ?_)
    refine Run.region ?_
    refine O.move rfl rfl ?_
    refine O.move rfl rfl ?_
    first | refine O.ar rfl rfl rfl (by exact wrap_i64 (by omega) (by omega)) rfl ?_ | refine O.ar rfl rfl rfl rfl rfl ?_
    refine O.assign rfl rfl ?_
    refine O.nil ?_
    try refine Run.keep [0, 1, 4, 9] rfl rfl ?_
    repeat (first | refine Run.seq ?_ | refine Run.skip ?_ | refine Run.block ?_)
    refine Run.region ?_
    refine O.move rfl rfl ?_
    refine O.assign rfl rfl ?_
    refine O.nil ?_
    try refine Run.keep [0, 1, 4, 9] rfl rfl ?_
    refine Run.ret ?_
    exact Ends.ex hE (.inr rfl) (.tmp (by rw [← e]; rfl) .nil) rfl rfl
  ·
    have e := p2 hc
    repeat (first | refine Run.seq ?_ | refine Run.skip ?_ | refine Run.block ?_)
    refine Run.region ?_
    refine O.move rfl rfl ?_
    first | refine O.cmp rfl rfl rfl (by first | exact decide_eq_true (by omega) | exact decide_eq_false (by omega)) rfl ?_ | refine O.cmp rfl rfl rfl rfl rfl ?_
    refine O.nil ?_
    try refine Run.keep [0, 1, 4, 9] rfl rfl ?_
    repeat (first | refine Run.seq ?_ | refine Run.skip ?_)
    first | refine Run.condT rfl rfl ?_ | refine Run.condF rfl rfl ?_ | refine Run.condT rfl (by assumption) ?_ | refine Run.condF rfl (by assumption) ?_
    repeat (first | refine Run.seq ?_ | refine Run.skip ?_ | refine Run.block ?_)
    refine Run.region ?_
    refine O.move rfl rfl ?_
    refine O.assign rfl rfl ?_
    refine O.nil ?_
    try refine Run.keep [0, 1, 4, 9] rfl rfl ?_
    refine Run.ret ?_
    exact Ends.ex hE (.inr rfl) (.tmp (by rw [← e]; rfl) .nil) rfl rfl
end Go.Proofs.YtcbdhdblchmofaaDoor.Vm
