/- Disks: written. Conditions: none. -/
import Derived.Test.YtalcpfpjkfpmbaaDiskB
namespace Go.Proofs.Ytalcpfpjkfpmbaa.Vm
open Go Go.RowKit
set_option linter.unusedVariables false
set_option linter.unusedSimpArgs false
attribute [local irreducible] Ops Dr Run
theorem cel_ints (S : List Int) : cel S = ints .u8 S := by simp [ints]
theorem fill_put {E : Env} {tm : List (Nat × AV)} {x y : Operand} {a : Int} {S : List Int} {z0 : AV} {zr : List AV} (hx : evO E tm x = some (.pv (.int .i64 a))) (hy : evO E tm y = some (.agg (cel S))) (hS : S.length = 32) (hz : zr.length = 32) :
    fillO E (fun j => ([(0, 1), (1, 32)] : List (Nat × Nat))[j]?) tm (z0 :: zr) [(0, x), (1, y)] = some (.pv (.int .i64 a) :: cel S) := by
  have hl : (cel S).length = 32 := by rw [cel_len, hS]
  have h1 : setO (z0 :: zr) 0 [AV.pv (.int .i64 a)] = some (.pv (.int .i64 a) :: zr) := by rw [setO_fits (by simp)]; rfl
  have h2 : setO (AV.pv (.int .i64 a) :: zr) 1 (cel S) = some (.pv (.int .i64 a) :: cel S) := by
    rw [setO_fits (by simp [hS, hz])]
    unfold setAt
    rw [hl, show 1 + 32 = zr.length + 1 by omega, List.drop_succ_cons, List.drop_length]
    simp
  have h3 : (AV.pv (PV.int .i64 a)).cells? = some [.pv (.int .i64 a)] := rfl
  have h4 : Nat.beq (cel S).length 32 = true := by rw [hl]; rfl
  simp only [fillO, hx, hy, Option.bind_some, cells_cel, h3, List.getElem?_cons_zero, List.getElem?_cons_succ, h1, h4, show Nat.beq ([AV.pv (PV.int .i64 a)] : List AV).length 1 = true from rfl, h2]
theorem elems_put {E : Env} {bx : List (Nat × Box)} {tm : List (Nat × AV)} {x : Operand} {a : Int} {S : List Int} (hx : evO E tm x = some (.agg (.pv (.int .i64 a) :: cel S))) (hS : S.length = 32) : elemsO E bx tm 33 0 [(0, x)] = some [putE ⟨a, S⟩] := by
  have h1 : pubO bx (.agg (.pv (.int .i64 a) :: cel S)) = some (putE ⟨a, S⟩) := by
    rw [cel_ints]
    simp only [pubO, pubsO, pubs_ints]
    rfl
  have h2 : ((putE ⟨a, S⟩).cells.all PV.one) = true := by
    simp only [PV.cells, List.all_cons, List.all_map]
    simp [PV.one]
  have h3 : Nat.beq (putE ⟨a, S⟩).cells.length 33 = true := by simp [PV.cells, hS]
  simp only [elemsO, hx, Option.bind_some, h1, h2, h3]
  rfl
variable {g : Nat → Option (List PV)}
theorem fnDFresh {Ls : List (List Int)} {Ws : List Pt} (h : DOk Ls Ws) : FnC (En Try.prog g) 29 [dskA Ls Ws] (.agg [.pv (.lst 32 (Ls.map secE)), .gl 7 Ws.length]) [(7, .lst 70 33 (Ws.map putE))] := by
  have hE := EnOk g
  obtain ⟨l1, l4, hs, w6, hw⟩ := h
  refine FnC.of Try.func29 rfl rfl rfl rfl ?_
  repeat (first | refine Run.seq ?_ | refine Run.skip ?_ | refine Run.block ?_)
  refine Run.region ?_
  refine O.box 1 rfl (by first | rfl | exact cells_ones (by simp [ones_app, ones_ints, ones, AV.one, PV.one])) rfl rfl ?_
  refine O.alloc hE 2 T26 rfl rfl rfl ?_
  refine O.nil ?_
  try refine Run.keep [0, 1, 2] rfl rfl ?_
  repeat (first | refine Run.seq ?_ | refine Run.skip ?_ | refine Run.block ?_)
  refine Run.draw mixed rfl ?_
  refine D.lit hE 3 [] T23 rfl T64 rfl rfl (xs := []) rfl BxIn.nil rfl rfl rfl rfl rfl ?_
  refine D.field hE L26 rfl rfl rfl rfl ?_
  first | refine D.loadS hE T23 rfl rfl rfl (by rfl) rfl ?_ | refine D.loadE hE T23 rfl rfl (by rfl) rfl ?_ | refine D.load hE T23 rfl rfl rfl rfl ?_
  refine D.appM secE (q := []) (r := Ls) hE T23 rfl T64 rfl rfl rfl rfl rfl newest_pv rfl rfl rfl rfl (by simp; omega) (by simp [maxLen]; omega) rfl ?_
  refine D.lit hE 7 [] T24 rfl T70 rfl rfl (xs := []) rfl BxIn.nil rfl rfl rfl rfl rfl ?_
  refine D.field hE L26 rfl rfl rfl rfl ?_
  first | refine D.loadS hE T24 rfl rfl rfl (by rfl) rfl ?_ | refine D.loadE hE T24 rfl rfl (by rfl) rfl ?_ | refine D.load hE T24 rfl rfl rfl rfl ?_
  refine D.appM putE (q := []) (r := Ws) hE T24 rfl T70 rfl rfl rfl rfl rfl newest_pv rfl rfl rfl rfl (by simp; omega) (by simp [maxLen]; omega) rfl ?_
  refine D.build hE T26 L26 rfl rfl rfl ?_
  refine D.store hE T26 rfl rfl rfl rfl rfl rfl ?_
  refine Dr.nil ?_
  refine ⟨rfl, ?_⟩
  try refine Run.keep [0, 1, 2] rfl rfl ?_
  refine Run.ret ?_
  exact Ends.of hE (.inr rfl) rfl rfl (SLe.by rfl (TmLe.cons (AVle.aggs (.cons (AVle.lst _ _ _ (lstOf_glV rfl (by simp))) (.cons (AVle.of_eq rfl) .nil))) .nil) (BxsLe.cons rfl (.refl _) .nil) rfl rfl)
theorem fnDWrite {Ls : List (List Int)} {Ws : List Pt} (h : DOk Ls Ws) (hW : Ws.length < 60) {i : Nat} (hi : i < Ls.length) {S : List Int} (hS : S.length = 32) : FnC (En Try.prog g) 26 [dskA Ls Ws, .pv (.int .i64 (i : Int)), .agg (cel S)] (.tup [dskA Ls (Ws ++ [⟨i, S⟩]), .pv (.int .i64 0)]) [] := by
  have hE := EnOk g
  have c1 := fnDCheck (g := g) h
  have c2 := fnDFresh (g := g) h
  obtain ⟨l1, l4, hs, w6, hw⟩ := h
  refine FnC.of Try.func26 rfl rfl rfl rfl ?_
  repeat (first | refine Run.seq ?_ | refine Run.skip ?_ | refine Run.block ?_)
  refine Run.region ?_
  refine O.box 3 rfl (by first | rfl | exact cells_ones (by simp [ones_app, ones_ints, ones, AV.one, PV.one])) rfl rfl ?_
  refine O.box 5 rfl (cells_cel S) rfl rfl ?_
  refine O.alloc hE 6 T26 rfl rfl rfl ?_
  refine O.assign rfl rfl ?_
  refine O.nil ?_
  try refine Run.keep [0, 1, 2, 3, 5, 6, 7, 8, 12, 23, 28] rfl rfl ?_
  repeat (first | refine Run.seq ?_ | refine Run.skip ?_ | refine Run.block ?_)
  refine Run.region ?_
  refine O.load hE T26 rfl rfl rfl rfl ?_
  refine O.callE c1 rfl (by first | rfl | simp [closed, men3, mens2_app, mens2_ints, mens2, men2, men1, mens1_app, mens1_ints, mens1]) (by first | rfl | simp [d2, ds1_ints, ds1_app, ds1, d1, ds0_app, ds0_ints, ds0, d0]) rfl ?_
  refine O.assign rfl rfl ?_
  refine O.nil ?_
  try refine Run.keep [0, 1, 2, 3, 5, 6, 7, 8, 12, 23, 28] rfl rfl ?_
  repeat (first | refine Run.seq ?_ | refine Run.skip ?_ | refine Run.block ?_)
  refine Run.region ?_
  refine O.move rfl rfl ?_
  first | refine O.cmp rfl rfl rfl (by first | exact decide_eq_true (by omega) | exact decide_eq_false (by omega)) rfl ?_ | refine O.cmp rfl rfl rfl rfl rfl ?_
  refine O.nil ?_
  try refine Run.keep [0, 1, 2, 3, 5, 6, 7, 8, 12, 23, 28] rfl rfl ?_
  repeat (first | refine Run.seq ?_ | refine Run.skip ?_)
  first | refine Run.condT rfl rfl ?_ | refine Run.condF rfl rfl ?_ | refine Run.condT rfl (by assumption) ?_ | refine Run.condF rfl (by assumption) ?_
  repeat (first | refine Run.seq ?_ | refine Run.skip ?_ | refine Run.block ?_)
  refine Run.region ?_
  refine O.move rfl rfl ?_
  first | refine O.cmp rfl rfl rfl (by first | exact decide_eq_true (by omega) | exact decide_eq_false (by omega)) rfl ?_ | refine O.cmp rfl rfl rfl rfl rfl ?_
  refine O.move rfl rfl ?_
  first | (refine O.yes rfl rfl (by first | rfl | assumption) ?_; refine O.move rfl rfl ?_) | refine O.no rfl rfl rfl rfl ?_
  first | (refine O.yes rfl rfl (by first | rfl | assumption) ?_; refine O.field hE L26 rfl rfl rfl rfl ?_) | refine O.no rfl rfl rfl rfl ?_
  first | (refine O.yes rfl rfl (by first | rfl | assumption) ?_; first | refine O.loadS hE T23 rfl rfl rfl (by rfl) rfl ?_ | refine O.loadE hE T23 rfl rfl (by rfl) rfl ?_ | refine O.load hE T23 rfl rfl rfl rfl ?_) | refine O.no rfl rfl rfl rfl ?_
  first | (refine O.yes rfl rfl (by first | rfl | assumption) ?_; first | refine O.lenN hE T23 rfl rfl rfl (by first | exact newest_pv | exact newest_gl rfl rfl | trivial) lenC rfl ?_ | refine O.lenLst hE T23 rfl rfl rfl (by first | exact newest_pv | exact newest_gl rfl rfl | trivial) rfl ?_) | refine O.no rfl rfl rfl rfl ?_
  first | (refine O.yes rfl rfl (by first | rfl | assumption) ?_; first | refine O.cmp rfl rfl rfl (by first | exact decide_eq_true (by omega) | exact decide_eq_false (by omega)) rfl ?_ | refine O.cmp rfl rfl rfl rfl rfl ?_) | refine O.no rfl rfl rfl rfl ?_
  refine O.pick rfl rfl rfl rfl rfl ?_
  refine O.nil ?_
  try refine Run.keep [0, 1, 2, 3, 5, 6, 7, 8, 12, 23, 28] rfl rfl ?_
  repeat (first | refine Run.seq ?_ | refine Run.skip ?_)
  first | refine Run.condT rfl rfl ?_ | refine Run.condF rfl rfl ?_ | refine Run.condT rfl (by assumption) ?_ | refine Run.condF rfl (by assumption) ?_
  repeat (first | refine Run.seq ?_ | refine Run.skip ?_ | refine Run.block ?_)
  refine Run.region ?_
  refine O.field hE L26 rfl rfl rfl rfl ?_
  first | refine O.loadS hE T24 rfl rfl rfl (by rfl) rfl ?_ | refine O.loadE hE T24 rfl rfl (by rfl) rfl ?_ | refine O.load hE T24 rfl rfl rfl rfl ?_
  first | refine O.lenN hE T24 rfl rfl rfl (by first | exact newest_pv | exact newest_gl rfl rfl | trivial) lenC rfl ?_ | refine O.lenLst hE T24 rfl rfl rfl (by first | exact newest_pv | exact newest_gl rfl rfl | trivial) rfl ?_
  refine O.cmp (c' := false) rfl rfl rfl (by simp; omega) rfl ?_
  refine O.nil ?_
  try refine Run.keep [0, 1, 2, 3, 5, 6, 7, 8, 12, 23, 28] rfl rfl ?_
  repeat (first | refine Run.seq ?_ | refine Run.skip ?_)
  first | refine Run.condT rfl rfl ?_ | refine Run.condF rfl rfl ?_ | refine Run.condT rfl (by assumption) ?_ | refine Run.condF rfl (by assumption) ?_
  repeat (first | refine Run.seq ?_ | refine Run.skip ?_ | refine Run.block ?_)
  refine Run.region ?_
  refine O.load hE T26 rfl rfl rfl rfl ?_
  refine O.call (bs' := []) 100 c2 (.cons (AVle.of_eq rfl) .nil) rfl rfl rfl rfl rfl rfl rfl ?_
  refine O.store hE T26 rfl rfl rfl rfl rfl rfl ?_
  refine O.nil ?_
  try refine Run.keep [0, 1, 2, 3, 5, 6, 7, 8, 12, 23, 28] rfl rfl ?_
  repeat (first | refine Run.seq ?_ | refine Run.skip ?_ | refine Run.block ?_)
  refine Run.region ?_
  refine O.field hE L26 rfl rfl rfl rfl ?_
  first | refine O.loadS hE T24 rfl rfl rfl (by rfl) rfl ?_ | refine O.loadE hE T24 rfl rfl (by rfl) rfl ?_ | refine O.load hE T24 rfl rfl rfl rfl ?_
  refine O.move rfl rfl ?_
  refine O.loadA (q := cel S) hE T64 rfl rfl rfl (show List.take 32 (cel S) = cel S from List.take_of_length_le (by simp [hS])) (by simp [hS]) rfl ?_
  refine O.build hE T70 L70 rfl (fill_put rfl rfl hS rfl) rfl ?_
  refine O.litV hE T24 rfl T70 rfl rfl (elems_put rfl hS) rfl rfl rfl rfl ?_
  refine O.appM putE (q := Ws) (r := [⟨i, S⟩]) hE T24 rfl T70 rfl rfl rfl rfl rfl newest_pv rfl rfl rfl rfl (by simp; omega) (by simp [maxLen]; omega) rfl ?_
  refine O.field hE L26 rfl rfl rfl rfl ?_
  refine O.store hE T24 rfl rfl rfl rfl rfl rfl ?_
  refine O.nil ?_
  try refine Run.keep [0, 1, 2, 3, 5, 6, 7, 8, 12, 23, 28] rfl rfl ?_
  repeat (first | refine Run.seq ?_ | refine Run.skip ?_ | refine Run.block ?_)
  refine Run.region ?_
  refine O.load hE T26 rfl rfl rfl rfl ?_
  refine O.store hE T26 rfl rfl rfl rfl rfl rfl ?_
  refine O.assign rfl rfl ?_
  refine O.nil ?_
  try refine Run.keep [0, 1, 2, 3, 5, 6, 7, 8, 12, 23, 28] rfl rfl ?_
  refine Run.ret ?_
  exact Ends.of hE (.inr rfl) rfl rfl (SLe.res0 (AVle.tups (.cons (AVle.aggs (.cons (AVle.of_eq rfl) (.cons (AVle.lst _ _ _ (lstOf_glV rfl (by simp))) .nil))) (.cons (AVle.of_eq rfl) .nil))) rfl)
end Go.Proofs.Ytalcpfpjkfpmbaa.Vm
