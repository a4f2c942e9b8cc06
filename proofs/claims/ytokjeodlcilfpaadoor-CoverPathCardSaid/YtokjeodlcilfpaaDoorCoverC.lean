/- Covers: CoverOf; what a cover is built up to: build, Rooted. Conditions: the table of steps has 64 words. -/
import Derived.Test.YtokjeodlcilfpaaDoorCoverB
namespace Go.Proofs.YtokjeodlcilfpaaDoor.Vm
open Go Go.RowKit
set_option linter.unusedVariables false
set_option linter.unusedSimpArgs false
attribute [local irreducible] Ops Dr Run digP covP
variable {g : Nat → Option (List PV)}
theorem sub_all {α : Type} {l : List α} {n : Nat} (h : l.length = n) : sub l 0 n = l := by
  unfold sub
  rw [List.drop_zero, ← h, List.take_length]
theorem fnCoverOf {T : List Int → List Int → List Int} (hT : Feeds g T) {mode : Int} (hm : mode = 1 ∨ mode = 2) {k : Nat} {ss : List Sl} {os : List Bool} (hk : k ≤ 4) (hl : ss.length = 2 ^ k) (hlo : os.length = ss.length) (hs : ∀ s ∈ ss, Sok s) :
    FnC (En Tryd.prog g) 14 [.pv (.int .i64 mode), .pv (.lst 3 (ss.map slE)), .pv (.lst 1 (os.map PV.bool))] (.tup [.agg [.pv (.lst 3 ((covP (digP T mode) k ss os).1.map slE)), .pv (.lst 1 ((covP (digP T mode) k ss os).2.map bys))], .pv (.int .i64 0)]) [] := by
  have hE := EnOk g
  have h16 : 2 ^ k ≤ 16 := Nat.pow_le_pow_right (n := 2) (j := 4) (by decide) (by omega)
  have c1 := fnLeaves hT hm hk hl hs
  have c2 := fnWalk hT hm hs hlo (by omega) k 0 [] [] hk (by omega) (by simp; omega) (by simp; omega)
  rw [sub_all hl, sub_all (by omega), Nat.zero_add, ← hl, List.nil_append, List.nil_append] at c2
  generalize covP (digP T mode) k ss os = C at *
  generalize List.map (leafP (digP T mode)) ss = row at *
  have hmo : (os.map PV.bool).length = os.length := by simp
  have hms : (ss.map slE).length = ss.length := by simp
  refine FnC.of Tryd.func14 rfl rfl rfl rfl ?_
  repeat (first | refine Run.seq ?_ | refine Run.skip ?_ | refine Run.block ?_)
  refine Run.region ?_
  refine O.box 3 rfl (by first | rfl | exact cells_ones (by simp [ones_app, ones_ints, ones, AV.one, PV.one])) rfl rfl ?_
  refine O.box 4 rfl (by first | rfl | exact cells_ones (by simp [ones_app, ones_ints, ones, AV.one, PV.one])) rfl rfl ?_
  refine O.box 5 rfl (by first | rfl | exact cells_ones (by simp [ones_app, ones_ints, ones, AV.one, PV.one])) rfl rfl ?_
  refine O.alloc hE 6 T29 rfl rfl rfl ?_
  refine O.assign rfl rfl ?_
  refine O.nil ?_
  try refine Run.keep [0, 1, 2, 3, 4, 5, 6, 7, 9, 10, 11, 12, 20, 27, 35] rfl rfl ?_
  repeat (first | refine Run.seq ?_ | refine Run.skip ?_ | refine Run.block ?_)
  refine Run.region ?_
  first | refine O.loadS hE T3 rfl rfl rfl (by rfl) rfl ?_ | refine O.loadE hE T3 rfl rfl (by rfl) rfl ?_ | refine O.load hE T3 rfl rfl rfl rfl ?_
  first | refine O.loadS hE T23 rfl rfl rfl (by rfl) rfl ?_ | refine O.loadE hE T23 rfl rfl (by rfl) rfl ?_ | refine O.load hE T23 rfl rfl rfl rfl ?_
  refine O.callE c1 rfl (by first | rfl | simp [closed, men3, mens2_app, mens2_ints, mens2, men2, men1, mens1_app, mens1_ints, mens1]) (by first | rfl | simp [d2, ds1_ints, ds1_app, ds1, d1, ds0_app, ds0_ints, ds0, d0]) rfl ?_
  refine O.move rfl rfl ?_
  refine O.extract rfl rfl rfl ?_
  refine O.extract rfl rfl rfl ?_
  refine O.assign rfl rfl ?_
  refine O.assign rfl rfl ?_
  refine O.nil ?_
  try refine Run.keep [0, 1, 2, 3, 4, 5, 6, 7, 9, 10, 11, 12, 20, 27, 35] rfl rfl ?_
  repeat (first | refine Run.seq ?_ | refine Run.skip ?_ | refine Run.block ?_)
  refine Run.region ?_
  refine O.move rfl rfl ?_
  first | refine O.cmp rfl rfl rfl (by first | exact decide_eq_true (by omega) | exact decide_eq_false (by omega)) rfl ?_ | refine O.cmp rfl rfl rfl rfl rfl ?_
  refine O.nil ?_
  try refine Run.keep [0, 1, 2, 3, 4, 5, 6, 7, 9, 10, 11, 12, 20, 27, 35] rfl rfl ?_
  repeat (first | refine Run.seq ?_ | refine Run.skip ?_)
  first | refine Run.condT rfl rfl ?_ | refine Run.condF rfl rfl ?_ | refine Run.condT rfl (by assumption) ?_ | refine Run.condF rfl (by assumption) ?_
  repeat (first | refine Run.seq ?_ | refine Run.skip ?_ | refine Run.block ?_)
  refine Run.region ?_
  first | refine O.loadS hE T25 rfl rfl rfl (by rfl) rfl ?_ | refine O.loadE hE T25 rfl rfl (by rfl) rfl ?_ | refine O.load hE T25 rfl rfl rfl rfl ?_
  first | refine O.lenN hE T25 rfl rfl rfl (by first | exact newest_pv | exact newest_gl rfl rfl | trivial) lenC rfl ?_ | refine O.lenLst hE T25 rfl rfl rfl (by first | exact newest_pv | exact newest_gl rfl rfl | trivial) rfl ?_
  first | refine O.loadS hE T23 rfl rfl rfl (by rfl) rfl ?_ | refine O.loadE hE T23 rfl rfl (by rfl) rfl ?_ | refine O.load hE T23 rfl rfl rfl rfl ?_
  first | refine O.lenN hE T23 rfl rfl rfl (by first | exact newest_pv | exact newest_gl rfl rfl | trivial) lenC rfl ?_ | refine O.lenLst hE T23 rfl rfl rfl (by first | exact newest_pv | exact newest_gl rfl rfl | trivial) rfl ?_
  first | refine O.cmp rfl rfl rfl (by first | exact decide_eq_true (by omega) | exact decide_eq_false (by omega)) rfl ?_ | refine O.cmp rfl rfl rfl rfl rfl ?_
  refine O.nil ?_
  try refine Run.keep [0, 1, 2, 3, 4, 5, 6, 7, 9, 10, 11, 12, 20, 27, 35] rfl rfl ?_
  repeat (first | refine Run.seq ?_ | refine Run.skip ?_)
  first | refine Run.condT rfl rfl ?_ | refine Run.condF rfl rfl ?_ | refine Run.condT rfl (by assumption) ?_ | refine Run.condF rfl (by assumption) ?_
  repeat (first | refine Run.seq ?_ | refine Run.skip ?_ | refine Run.block ?_)
  refine Run.region ?_
  refine O.alloc hE 10 T29 rfl rfl rfl ?_
  refine O.nil ?_
  try refine Run.keep [0, 1, 2, 3, 4, 5, 6, 7, 9, 10, 11, 12, 20, 27, 35] rfl rfl ?_
  repeat (first | refine Run.seq ?_ | refine Run.skip ?_ | refine Run.block ?_)
  refine Run.region ?_
  refine O.alloc hE 11 T72 rfl rfl rfl ?_
  refine O.nil ?_
  try refine Run.keep [0, 1, 2, 3, 4, 5, 6, 7, 9, 10, 11, 12, 20, 27, 35] rfl rfl ?_
  repeat (first | refine Run.seq ?_ | refine Run.skip ?_ | refine Run.block ?_)
  refine Run.region ?_
  refine O.makeFunc rfl rfl ?_
  refine O.store hE T72 rfl rfl rfl rfl rfl rfl ?_
  refine O.nil ?_
  try refine Run.keep [0, 1, 2, 3, 4, 5, 6, 7, 9, 10, 11, 12, 20, 27, 35] rfl rfl ?_
  refine Run.pre (SLe.nilCell (c := 10) (i := 0) (e := 41) (sz := 3) (b := 100) rfl rfl rfl rfl) ?_
  refine Run.pre (SLe.nilCell (c := 10) (i := 1) (e := 33) (sz := 1) (b := 101) rfl rfl rfl rfl) ?_
  repeat (first | refine Run.seq ?_ | refine Run.skip ?_ | refine Run.block ?_)
  refine Run.region ?_
  first | refine O.loadS hE T72 rfl rfl rfl (by rfl) rfl ?_ | refine O.loadE hE T72 rfl rfl (by rfl) rfl ?_ | refine O.load hE T72 rfl rfl rfl rfl ?_
  first | refine O.loadS hE T23 rfl rfl rfl (by rfl) rfl ?_ | refine O.loadE hE T23 rfl rfl (by rfl) rfl ?_ | refine O.load hE T23 rfl rfl rfl rfl ?_
  first | refine O.lenN hE T23 rfl rfl rfl (by first | exact newest_pv | exact newest_gl rfl rfl | trivial) lenC rfl ?_ | refine O.lenLst hE T23 rfl rfl rfl (by first | exact newest_pv | exact newest_gl rfl rfl | trivial) rfl ?_
  refine O.lend (ln := lnC) c2 rfl rfl rfl (.inl rfl) (by repeat (first | exact BxIn.nil | refine BxIn.cons rfl ?_)) rfl rfl rfl rfl rfl rfl rfl rfl rfl rfl ?_
  refine O.assign rfl rfl ?_
  refine O.nil ?_
  try refine Run.keep [0, 1, 2, 3, 4, 5, 6, 7, 9, 10, 11, 12, 20, 27, 35] rfl rfl ?_
  repeat (first | refine Run.seq ?_ | refine Run.skip ?_ | refine Run.block ?_)
  refine Run.region ?_
  refine O.move rfl rfl ?_
  first | refine O.cmp rfl rfl rfl (by first | exact decide_eq_true (by omega) | exact decide_eq_false (by omega)) rfl ?_ | refine O.cmp rfl rfl rfl rfl rfl ?_
  refine O.nil ?_
  try refine Run.keep [0, 1, 2, 3, 4, 5, 6, 7, 9, 10, 11, 12, 20, 27, 35] rfl rfl ?_
  repeat (first | refine Run.seq ?_ | refine Run.skip ?_)
  first | refine Run.condT rfl rfl ?_ | refine Run.condF rfl rfl ?_ | refine Run.condT rfl (by assumption) ?_ | refine Run.condF rfl (by assumption) ?_
  repeat (first | refine Run.seq ?_ | refine Run.skip ?_ | refine Run.block ?_)
  refine Run.region ?_
  refine O.load hE T29 rfl rfl rfl rfl ?_
  refine O.store hE T29 rfl rfl rfl rfl rfl rfl ?_
  refine O.assign rfl rfl ?_
  refine O.nil ?_
  try refine Run.keep [0, 1, 2, 3, 4, 5, 6, 7, 9, 10, 11, 12, 20, 27, 35] rfl rfl ?_
  refine Run.ret ?_
  exact Ends.of hE (.inr rfl) rfl rfl (SLe.res0 (AVle.tups (.cons (AVle.aggs (.cons (AVle.lst _ _ _ (lstOf_gl rfl (by simp))) (.cons (AVle.lst _ _ _ (lstOf_gl rfl (by simp))) .nil))) (.cons (AVle.of_eq rfl) .nil))) rfl)
end Go.Proofs.YtokjeodlcilfpaaDoor.Vm
