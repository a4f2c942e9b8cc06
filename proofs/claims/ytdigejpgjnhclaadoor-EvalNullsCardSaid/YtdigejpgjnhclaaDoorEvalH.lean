/- Rows that fit; an expression made ready; eval.Eval. Conditions: what utf8.ValidString answers. -/
import Derived.Test.YtdigejpgjnhclaaDoorEvalG
namespace Go.Proofs.YtdigejpgjnhclaaDoor.Vm
open Go Go.RowKit Go.Lib
set_option linter.unusedVariables false
set_option linter.unusedSimpArgs false
attribute [local irreducible] Ops Dr Run
variable {g : Nat → Option (List PV)}
theorem fnKFits (hV : VStr g) {cs : List Kol} (hc : ColsOk cs) {row : List Vl} (hr : RowOk cs row) : FnC (En Tryd.prog g) 43 [.pv (.lst 4 (row.map vlE)), .pv (.lst 3 (cs.map kolE))] (.pv (.int .i64 0)) [] := by
  have hE := EnOk g
  have c1 := fnColumns (g := g) hc
  have hlen := hc.len
  obtain ⟨hrl, hrok⟩ := hr
  have l1 : ((row.map vlE).length : Int) = (cs.length : Int) := by rw [List.length_map, hrl]
  have l2 : ((cs.map kolE).length : Int) = (cs.length : Int) := by rw [List.length_map]
  refine FnC.of Tryd.func43 rfl rfl rfl rfl ?_
  repeat (first | refine Run.seq ?_ | refine Run.skip ?_ | refine Run.block ?_)
  refine Run.region ?_
  refine O.assign rfl rfl ?_
  refine O.nil ?_
  try refine Run.keep [0,1,4,5,6,7,8,12,18,19,20,21,22,29,31,43] rfl rfl ?_
  repeat (first | refine Run.seq ?_ | refine Run.skip ?_ | refine Run.block ?_)
  refine Run.region ?_
  refine O.move rfl rfl ?_
  refine O.callE c1 rfl (by first | rfl | simp [closed, men3, mens2_app, mens2_ints, mens2, men2, men1, mens1_app, mens1_ints, mens1]) (by first | rfl | simp [d2, ds1_ints, ds1_app, ds1, d1, ds0_app, ds0_ints, ds0, d0]) rfl ?_
  refine O.assign rfl rfl ?_
  refine O.nil ?_
  try refine Run.keep [0,1,4,5,6,7,8,12,18,19,20,21,22,29,31,43] rfl rfl ?_
  repeat (first | refine Run.seq ?_ | refine Run.skip ?_ | refine Run.block ?_)
  refine Run.region ?_
  refine O.move rfl rfl ?_
  first | refine O.cmp rfl rfl rfl (by first | exact dT (by omega) | exact dF (by omega)) rfl ?_ | refine O.cmp rfl rfl rfl rfl rfl ?_
  refine O.nil ?_
  try refine Run.keep [0,1,4,5,6,7,8,12,18,19,20,21,22,29,31,43] rfl rfl ?_
  repeat (first | refine Run.seq ?_ | refine Run.skip ?_)
  first | refine Run.condT rfl rfl ?_ | refine Run.condF rfl rfl ?_ | refine Run.condT rfl (by assumption) ?_ | refine Run.condF rfl (by assumption) ?_
  repeat (first | refine Run.seq ?_ | refine Run.skip ?_ | refine Run.block ?_)
  refine Run.region ?_
  refine O.move rfl rfl ?_
  refine O.lenN hE T41 rfl rfl rfl newest_pv l1 rfl ?_
  refine O.move rfl rfl ?_
  refine O.lenN hE T29 rfl rfl rfl newest_pv l2 rfl ?_
  first | refine O.cmp rfl rfl rfl (by first | exact dT (by omega) | exact dF (by omega)) rfl ?_ | refine O.cmp rfl rfl rfl rfl rfl ?_
  refine O.nil ?_
  try refine Run.keep [0,1,4,5,6,7,8,12,18,19,20,21,22,29,31,43] rfl rfl ?_
  repeat (first | refine Run.seq ?_ | refine Run.skip ?_)
  first | refine Run.condT rfl rfl ?_ | refine Run.condF rfl rfl ?_ | refine Run.condT rfl (by assumption) ?_ | refine Run.condF rfl (by assumption) ?_
  repeat (first | refine Run.seq ?_ | refine Run.skip ?_ | refine Run.block ?_)
  refine Run.region ?_
  refine O.move rfl rfl ?_
  refine O.lenN hE T41 rfl rfl rfl newest_pv l1 rfl ?_
  refine O.move rfl rfl ?_
  refine O.nil ?_
  try refine Run.keep [0,1,4,5,6,7,8,12,18,19,20,21,22,29,31,43] rfl rfl ?_
  repeat (first | refine Run.seq ?_ | refine Run.skip ?_)
  refine Run.block ?_
  refine Run.loopInv (ι := Nat) (fun j => j ≤ cs.length)
    (fun j => ⟨58, [(1, .pv (.lst 3 (cs.map kolE))), (19, .pv (.lst 4 (row.map vlE))), (20, .pv (.int .i64 cs.length)), (21, .pv (.int .i64 j))], []⟩) (fun j => cs.length - j) 0 (by omega) ?_ ?_
  ·
    exact SLe.drop (by repeat (first | exact TmIn.nil | refine TmIn.cons rfl ?_)) (by repeat (first | exact BxIn.nil | refine BxIn.cons rfl ?_)) rfl rfl
  rintro j hj ih
  by_cases hlt : j < cs.length
  ·
    obtain ⟨c, hc0⟩ : ∃ c, cs[j]? = some c := ⟨_, List.getElem?_eq_getElem hlt⟩
    obtain ⟨v, hv0⟩ : ∃ v, row[j]? = some v := ⟨_, List.getElem?_eq_getElem (by omega)⟩
    obtain ⟨hg, hk⟩ := hrok j c v hc0 hv0
    have hat2 := kol_at hc0
    have hat : (row.map vlE)[(j : Int).toNat]? = some (vlE v) := by rw [Int.toNat_natCast, List.getElem?_map, hv0]; rfl
    have cv := fnCheck hV hg
    clear hg
    obtain ⟨ck, ckd, cnl⟩ := c
    obtain ⟨vk, vn, vb, vs⟩ := v
    dsimp only [vlE] at hat
    dsimp only [vlA] at cv
    dsimp only [kolE] at hat2
    dsimp only at hk
    by_cases h0 : vk = 0
    ·
      by_cases hn : cnl = true
      case neg => exact absurd (hk.elim (fun h => h) (fun h => absurd h.2 hn)) (fun h => by have := (hc.ok _ (List.mem_of_getElem? hc0)).2; dsimp only at this; omega)
      subst hn
      repeat (first | refine Run.seq ?_ | refine Run.skip ?_ | refine Run.block ?_)
      refine Run.region ?_
      first | refine O.cmp rfl rfl rfl (by first | exact dT (by omega) | exact dF (by omega)) rfl ?_ | refine O.cmp rfl rfl rfl rfl rfl ?_
      refine O.nil ?_
      try refine Run.keep [0,1,4,5,6,7,8,12,18,19,20,21,22,29,31,43] rfl rfl ?_
      repeat (first | refine Run.seq ?_ | refine Run.skip ?_)
      first | refine Run.condT rfl rfl ?_ | refine Run.condF rfl rfl ?_ | refine Run.condT rfl (by assumption) ?_ | refine Run.condF rfl (by assumption) ?_
      repeat (first | refine Run.seq ?_ | refine Run.skip ?_ | refine Run.block ?_)
      refine Run.region ?_
      refine O.move rfl rfl ?_
      refine O.index hE T41 rfl T25 rfl rfl (by first | exact newest_pv | exact newest_gl rfl rfl | trivial) rfl (by omega) (by first | assumption | rfl) rfl rfl rfl ?_
      refine O.load hE T25 rfl rfl rfl rfl ?_
      refine O.alloc hE 7 T25 rfl rfl rfl ?_
      refine O.assign rfl rfl ?_
      refine O.store hE T25 rfl rfl rfl rfl rfl rfl ?_
      refine O.nil ?_
      try refine Run.keep [0,1,4,5,6,7,8,12,18,19,20,21,22,29,31,43] rfl rfl ?_
      repeat (first | refine Run.seq ?_ | refine Run.skip ?_ | refine Run.block ?_)
      refine Run.region ?_
      refine O.load hE T25 rfl rfl rfl rfl ?_
      refine O.callE cv rfl (by first | rfl | simp [closed, men3, mens2_app, mens2_ints, mens2, men2, men1, mens1_app, mens1_ints, mens1]) (by first | rfl | simp [d2, ds1_ints, ds1_app, ds1, d1, ds0_app, ds0_ints, ds0, d0]) rfl ?_
      refine O.assign rfl rfl ?_
      refine O.nil ?_
      try refine Run.keep [0,1,4,5,6,7,8,12,18,19,20,21,22,29,31,43] rfl rfl ?_
      repeat (first | refine Run.seq ?_ | refine Run.skip ?_ | refine Run.block ?_)
      refine Run.region ?_
      refine O.move rfl rfl ?_
      first | refine O.cmp rfl rfl rfl (by first | exact dT (by omega) | exact dF (by omega)) rfl ?_ | refine O.cmp rfl rfl rfl rfl rfl ?_
      refine O.nil ?_
      try refine Run.keep [0,1,4,5,6,7,8,12,18,19,20,21,22,29,31,43] rfl rfl ?_
      repeat (first | refine Run.seq ?_ | refine Run.skip ?_)
      first | refine Run.condT rfl rfl ?_ | refine Run.condF rfl rfl ?_ | refine Run.condT rfl (by assumption) ?_ | refine Run.condF rfl (by assumption) ?_
      repeat (first | refine Run.seq ?_ | refine Run.skip ?_ | refine Run.block ?_)
      refine Run.region ?_
      refine O.field hE L25 rfl rfl rfl rfl ?_
      first | refine O.loadS hE T3 rfl rfl rfl (by rfl) rfl ?_ | refine O.loadE hE T3 rfl rfl (by rfl) rfl ?_ | refine O.load hE T3 rfl rfl rfl rfl ?_
      first | refine O.cmp rfl rfl rfl (by first | exact dT (by omega) | exact dF (by omega)) rfl ?_ | refine O.cmp rfl rfl rfl rfl rfl ?_
      refine O.move rfl rfl ?_
      first | (refine O.yes rfl rfl (by trivial) ?_; refine O.move rfl rfl ?_) | refine O.no rfl rfl rfl rfl ?_
      first | (refine O.yes rfl rfl (by trivial) ?_; refine O.move rfl rfl ?_) | refine O.no rfl rfl rfl rfl ?_
      first | (refine O.yes rfl rfl (by trivial) ?_; refine O.index hE T29 rfl T37 rfl rfl newest_pv rfl (by omega) hat2 rfl rfl rfl ?_) | refine O.no rfl rfl rfl rfl ?_
      first | (refine O.yes rfl rfl (by trivial) ?_; refine O.field hE L37 rfl rfl rfl rfl ?_) | refine O.no rfl rfl rfl rfl ?_
      first | (refine O.yes rfl rfl (by trivial) ?_; first | refine O.loadS hE T4 rfl rfl rfl (by rfl) rfl ?_ | refine O.loadE hE T4 rfl rfl (by rfl) rfl ?_ | refine O.load hE T4 rfl rfl rfl rfl ?_) | refine O.no rfl rfl rfl rfl ?_
      first | (refine O.yes rfl rfl (by trivial) ?_; refine O.un rfl rfl rfl rfl rfl ?_) | refine O.no rfl rfl rfl rfl ?_
      refine O.pick rfl rfl rfl rfl rfl ?_
      refine O.assign rfl rfl ?_
      refine O.nil ?_
      try refine Run.keep [0,1,4,5,6,7,8,12,18,19,20,21,22,29,31,43] rfl rfl ?_
      repeat (first | refine Run.seq ?_ | refine Run.skip ?_)
      first | refine Run.condT rfl rfl ?_ | refine Run.condF rfl rfl ?_ | refine Run.condT rfl (by assumption) ?_ | refine Run.condF rfl (by assumption) ?_
      repeat (first | refine Run.seq ?_ | refine Run.skip ?_ | refine Run.block ?_)
      refine Run.draw mixed rfl ?_
      refine D.field hE L25 rfl rfl rfl rfl ?_
      first | refine D.loadS hE T3 rfl rfl rfl (by rfl) rfl ?_ | refine D.loadE hE T3 rfl rfl (by rfl) rfl ?_ | refine D.load hE T3 rfl rfl rfl rfl ?_
      first | refine D.cmp rfl rfl rfl (by first | exact dT (by omega) | exact dF (by omega)) rfl ?_ | refine D.cmp rfl rfl rfl rfl rfl ?_
      refine D.move rfl rfl ?_
      first | (refine D.yes rfl rfl (by trivial) ?_; refine D.field hE L25 rfl rfl rfl rfl ?_) | refine D.no rfl rfl rfl rfl ?_
      first | (refine D.yes rfl rfl (by trivial) ?_; first | refine D.loadS hE T3 rfl rfl rfl (by rfl) rfl ?_ | refine D.loadE hE T3 rfl rfl (by rfl) rfl ?_ | refine D.load hE T3 rfl rfl rfl rfl ?_) | refine D.no rfl rfl rfl rfl ?_
      first | (refine D.yes rfl rfl (by trivial) ?_; refine D.move rfl rfl ?_) | refine D.no rfl rfl rfl rfl ?_
      first | (refine D.yes rfl rfl (by trivial) ?_; refine D.move rfl rfl ?_) | refine D.no rfl rfl rfl rfl ?_
      first | (refine D.yes rfl rfl (by trivial) ?_; refine D.index hE T29 rfl T37 rfl rfl newest_pv rfl (by omega) hat2 rfl rfl rfl ?_) | refine D.no rfl rfl rfl rfl ?_
      first | (refine D.yes rfl rfl (by trivial) ?_; refine D.field hE L37 rfl rfl rfl rfl ?_) | refine D.no rfl rfl rfl rfl ?_
      first | (refine D.yes rfl rfl (by trivial) ?_; first | refine D.loadS hE T3 rfl rfl rfl (by rfl) rfl ?_ | refine D.loadE hE T3 rfl rfl (by rfl) rfl ?_ | refine D.load hE T3 rfl rfl rfl rfl ?_) | refine D.no rfl rfl rfl rfl ?_
      first | (refine D.yes rfl rfl (by trivial) ?_; first | refine D.cmp rfl rfl rfl (by first | exact dT (by omega) | exact dF (by omega)) rfl ?_ | refine D.cmp rfl rfl rfl rfl rfl ?_) | refine D.no rfl rfl rfl rfl ?_
      refine D.pick rfl rfl rfl rfl rfl ?_
      refine D.assign rfl rfl ?_
      refine Dr.nil ?_
      refine ⟨rfl, ?_⟩
      try refine Run.keep [0,1,4,5,6,7,8,12,18,19,20,21,22,29,31,43] rfl rfl ?_
      repeat (first | refine Run.seq ?_ | refine Run.skip ?_)
      first | refine Run.condT rfl rfl ?_ | refine Run.condF rfl rfl ?_ | refine Run.condT rfl (by assumption) ?_ | refine Run.condF rfl (by assumption) ?_
      repeat (first | refine Run.seq ?_ | refine Run.skip ?_ | refine Run.block ?_)
      refine Run.region ?_
      first | refine O.ar rfl rfl rfl (by exact wrap_i64 (by omega) (by omega)) rfl ?_ | refine O.ar rfl rfl rfl rfl rfl ?_
      refine O.move rfl rfl ?_
      refine O.nil ?_
      try refine Run.keep [0,1,4,5,6,7,8,12,18,19,20,21,22,29,31,43] rfl rfl ?_
      refine ih (j + 1) _ ?_ (by omega) (by omega)
      exact SLe.drop (by repeat (first | exact TmIn.nil | refine TmIn.cons rfl ?_)) (by repeat (first | exact BxIn.nil | refine BxIn.cons rfl ?_)) rfl rfl
    ·
      have hkk : vk = ckd := hk.elim id (fun h => absurd h.1 h0)
      repeat (first | refine Run.seq ?_ | refine Run.skip ?_ | refine Run.block ?_)
      refine Run.region ?_
      first | refine O.cmp rfl rfl rfl (by first | exact dT (by omega) | exact dF (by omega)) rfl ?_ | refine O.cmp rfl rfl rfl rfl rfl ?_
      refine O.nil ?_
      try refine Run.keep [0,1,4,5,6,7,8,12,18,19,20,21,22,29,31,43] rfl rfl ?_
      repeat (first | refine Run.seq ?_ | refine Run.skip ?_)
      first | refine Run.condT rfl rfl ?_ | refine Run.condF rfl rfl ?_ | refine Run.condT rfl (by assumption) ?_ | refine Run.condF rfl (by assumption) ?_
      repeat (first | refine Run.seq ?_ | refine Run.skip ?_ | refine Run.block ?_)
      refine Run.region ?_
      refine O.move rfl rfl ?_
      refine O.index hE T41 rfl T25 rfl rfl (by first | exact newest_pv | exact newest_gl rfl rfl | trivial) rfl (by omega) (by first | assumption | rfl) rfl rfl rfl ?_
      refine O.load hE T25 rfl rfl rfl rfl ?_
      refine O.alloc hE 7 T25 rfl rfl rfl ?_
      refine O.assign rfl rfl ?_
      refine O.store hE T25 rfl rfl rfl rfl rfl rfl ?_
      refine O.nil ?_
      try refine Run.keep [0,1,4,5,6,7,8,12,18,19,20,21,22,29,31,43] rfl rfl ?_
      repeat (first | refine Run.seq ?_ | refine Run.skip ?_ | refine Run.block ?_)
      refine Run.region ?_
      refine O.load hE T25 rfl rfl rfl rfl ?_
      refine O.callE cv rfl (by first | rfl | simp [closed, men3, mens2_app, mens2_ints, mens2, men2, men1, mens1_app, mens1_ints, mens1]) (by first | rfl | simp [d2, ds1_ints, ds1_app, ds1, d1, ds0_app, ds0_ints, ds0, d0]) rfl ?_
      refine O.assign rfl rfl ?_
      refine O.nil ?_
      try refine Run.keep [0,1,4,5,6,7,8,12,18,19,20,21,22,29,31,43] rfl rfl ?_
      repeat (first | refine Run.seq ?_ | refine Run.skip ?_ | refine Run.block ?_)
      refine Run.region ?_
      refine O.move rfl rfl ?_
      first | refine O.cmp rfl rfl rfl (by first | exact dT (by omega) | exact dF (by omega)) rfl ?_ | refine O.cmp rfl rfl rfl rfl rfl ?_
      refine O.nil ?_
      try refine Run.keep [0,1,4,5,6,7,8,12,18,19,20,21,22,29,31,43] rfl rfl ?_
      repeat (first | refine Run.seq ?_ | refine Run.skip ?_)
      first | refine Run.condT rfl rfl ?_ | refine Run.condF rfl rfl ?_ | refine Run.condT rfl (by assumption) ?_ | refine Run.condF rfl (by assumption) ?_
      repeat (first | refine Run.seq ?_ | refine Run.skip ?_ | refine Run.block ?_)
      refine Run.region ?_
      refine O.field hE L25 rfl rfl rfl rfl ?_
      first | refine O.loadS hE T3 rfl rfl rfl (by rfl) rfl ?_ | refine O.loadE hE T3 rfl rfl (by rfl) rfl ?_ | refine O.load hE T3 rfl rfl rfl rfl ?_
      first | refine O.cmp rfl rfl rfl (by first | exact dT (by omega) | exact dF (by omega)) rfl ?_ | refine O.cmp rfl rfl rfl rfl rfl ?_
      refine O.move rfl rfl ?_
      first | (refine O.yes rfl rfl (by trivial) ?_; refine O.move rfl rfl ?_) | refine O.no rfl rfl rfl rfl ?_
      first | (refine O.yes rfl rfl (by trivial) ?_; refine O.move rfl rfl ?_) | refine O.no rfl rfl rfl rfl ?_
      first | (refine O.yes rfl rfl (by trivial) ?_; refine O.index hE T29 rfl T37 rfl rfl newest_pv rfl (by omega) hat2 rfl rfl rfl ?_) | refine O.no rfl rfl rfl rfl ?_
      first | (refine O.yes rfl rfl (by trivial) ?_; refine O.field hE L37 rfl rfl rfl rfl ?_) | refine O.no rfl rfl rfl rfl ?_
      first | (refine O.yes rfl rfl (by trivial) ?_; first | refine O.loadS hE T4 rfl rfl rfl (by rfl) rfl ?_ | refine O.loadE hE T4 rfl rfl (by rfl) rfl ?_ | refine O.load hE T4 rfl rfl rfl rfl ?_) | refine O.no rfl rfl rfl rfl ?_
      first | (refine O.yes rfl rfl (by trivial) ?_; refine O.un rfl rfl rfl rfl rfl ?_) | refine O.no rfl rfl rfl rfl ?_
      refine O.pick rfl rfl rfl rfl rfl ?_
      refine O.assign rfl rfl ?_
      refine O.nil ?_
      try refine Run.keep [0,1,4,5,6,7,8,12,18,19,20,21,22,29,31,43] rfl rfl ?_
      repeat (first | refine Run.seq ?_ | refine Run.skip ?_)
      first | refine Run.condT rfl rfl ?_ | refine Run.condF rfl rfl ?_ | refine Run.condT rfl (by assumption) ?_ | refine Run.condF rfl (by assumption) ?_
      repeat (first | refine Run.seq ?_ | refine Run.skip ?_ | refine Run.block ?_)
      refine Run.draw mixed rfl ?_
      refine D.field hE L25 rfl rfl rfl rfl ?_
      first | refine D.loadS hE T3 rfl rfl rfl (by rfl) rfl ?_ | refine D.loadE hE T3 rfl rfl (by rfl) rfl ?_ | refine D.load hE T3 rfl rfl rfl rfl ?_
      first | refine D.cmp rfl rfl rfl (by first | exact dT (by omega) | exact dF (by omega)) rfl ?_ | refine D.cmp rfl rfl rfl rfl rfl ?_
      refine D.move rfl rfl ?_
      first | (refine D.yes rfl rfl (by trivial) ?_; refine D.field hE L25 rfl rfl rfl rfl ?_) | refine D.no rfl rfl rfl rfl ?_
      first | (refine D.yes rfl rfl (by trivial) ?_; first | refine D.loadS hE T3 rfl rfl rfl (by rfl) rfl ?_ | refine D.loadE hE T3 rfl rfl (by rfl) rfl ?_ | refine D.load hE T3 rfl rfl rfl rfl ?_) | refine D.no rfl rfl rfl rfl ?_
      first | (refine D.yes rfl rfl (by trivial) ?_; refine D.move rfl rfl ?_) | refine D.no rfl rfl rfl rfl ?_
      first | (refine D.yes rfl rfl (by trivial) ?_; refine D.move rfl rfl ?_) | refine D.no rfl rfl rfl rfl ?_
      first | (refine D.yes rfl rfl (by trivial) ?_; refine D.index hE T29 rfl T37 rfl rfl newest_pv rfl (by omega) hat2 rfl rfl rfl ?_) | refine D.no rfl rfl rfl rfl ?_
      first | (refine D.yes rfl rfl (by trivial) ?_; refine D.field hE L37 rfl rfl rfl rfl ?_) | refine D.no rfl rfl rfl rfl ?_
      first | (refine D.yes rfl rfl (by trivial) ?_; first | refine D.loadS hE T3 rfl rfl rfl (by rfl) rfl ?_ | refine D.loadE hE T3 rfl rfl (by rfl) rfl ?_ | refine D.load hE T3 rfl rfl rfl rfl ?_) | refine D.no rfl rfl rfl rfl ?_
      first | (refine D.yes rfl rfl (by trivial) ?_; first | refine D.cmp rfl rfl rfl (by first | exact dT (by omega) | exact dF (by omega)) rfl ?_ | refine D.cmp rfl rfl rfl rfl rfl ?_) | refine D.no rfl rfl rfl rfl ?_
      refine D.pick rfl rfl rfl rfl rfl ?_
      refine D.assign rfl rfl ?_
      refine Dr.nil ?_
      refine ⟨rfl, ?_⟩
      try refine Run.keep [0,1,4,5,6,7,8,12,18,19,20,21,22,29,31,43] rfl rfl ?_
      repeat (first | refine Run.seq ?_ | refine Run.skip ?_)
      first | refine Run.condT rfl rfl ?_ | refine Run.condF rfl rfl ?_ | refine Run.condT rfl (by assumption) ?_ | refine Run.condF rfl (by assumption) ?_
      repeat (first | refine Run.seq ?_ | refine Run.skip ?_ | refine Run.block ?_)
      refine Run.region ?_
      first | refine O.ar rfl rfl rfl (by exact wrap_i64 (by omega) (by omega)) rfl ?_ | refine O.ar rfl rfl rfl rfl rfl ?_
      refine O.move rfl rfl ?_
      refine O.nil ?_
      try refine Run.keep [0,1,4,5,6,7,8,12,18,19,20,21,22,29,31,43] rfl rfl ?_
      refine ih (j + 1) _ ?_ (by omega) (by omega)
      exact SLe.drop (by repeat (first | exact TmIn.nil | refine TmIn.cons rfl ?_)) (by repeat (first | exact BxIn.nil | refine BxIn.cons rfl ?_)) rfl rfl
  obtain rfl : j = cs.length := by omega
  repeat (first | refine Run.seq ?_ | refine Run.skip ?_ | refine Run.block ?_)
  refine Run.region ?_
  first | refine O.cmp rfl rfl rfl (by first | exact dT (by omega) | exact dF (by omega)) rfl ?_ | refine O.cmp rfl rfl rfl rfl rfl ?_
  refine O.nil ?_
  try refine Run.keep [0,1,4,5,6,7,8,12,18,19,20,21,22,29,31,43] rfl rfl ?_
  repeat (first | refine Run.seq ?_ | refine Run.skip ?_)
  first | refine Run.condT rfl rfl ?_ | refine Run.condF rfl rfl ?_ | refine Run.condT rfl (by assumption) ?_ | refine Run.condF rfl (by assumption) ?_
  refine Run.exit ?_
  repeat (first | refine thenR_exit ?_ | refine roundR_exit ?_ | refine blockR_exit ?_ | refine blockR_pass rfl ?_)
  repeat (first | refine Run.seq ?_ | refine Run.skip ?_ | refine Run.block ?_)
  refine Run.region ?_
  refine O.assign rfl rfl ?_
  refine O.nil ?_
  try refine Run.keep [0,1,4,5,6,7,8,12,18,19,20,21,22,29,31,43] rfl rfl ?_
  (repeat (first | refine Run.seq ?_ | refine Run.skip ?_)); (try refine Run.ret ?_); first | exact Ends.flat hE (.inr rfl) rfl rfl (AVle.of_eq rfl) rfl | exact Ends.flat hE (.inl rfl) rfl rfl (AVle.of_eq rfl) rfl
theorem fnKRow (hV : VStr g) {cs : List Kol} (hc : ColsOk cs) {row : List Vl} (hr : RowOk cs row) : FnC (En Tryd.prog g) 32 [.pv (.lst 4 (row.map vlE)), .pv (.lst 3 (cs.map kolE))] (.pv (.int .i64 0)) [] := by
  have hE := EnOk g
  have c1 := fnKFits hV hc hr
  refine FnC.of Tryd.func32 rfl rfl rfl rfl ?_
  repeat (first | refine Run.seq ?_ | refine Run.skip ?_ | refine Run.block ?_)
  refine Run.region ?_
  refine O.assign rfl rfl ?_
  refine O.nil ?_
  try refine Run.keep [0,1,4] rfl rfl ?_
  repeat (first | refine Run.seq ?_ | refine Run.skip ?_ | refine Run.block ?_)
  refine Run.region ?_
  refine O.move rfl rfl ?_
  refine O.move rfl rfl ?_
  refine O.callE c1 rfl (by first | rfl | simp [closed, men3, mens2_app, mens2_ints, mens2, men2, men1, mens1_app, mens1_ints, mens1]) (by first | rfl | simp [d2, ds1_ints, ds1_app, ds1, d1, ds0_app, ds0_ints, ds0, d0]) rfl ?_
  refine O.assign rfl rfl ?_
  refine O.nil ?_
  try refine Run.keep [0,1,4] rfl rfl ?_
  (repeat (first | refine Run.seq ?_ | refine Run.skip ?_)); (try refine Run.ret ?_); first | exact Ends.flat hE (.inr rfl) rfl rfl (AVle.of_eq rfl) rfl | exact Ends.flat hE (.inl rfl) rfl rfl (AVle.of_eq rfl) rfl
/-- What an expression is made ready as. -/
abbrev thE (cs : List Kol) (x : Xp) : PV := .ifc (x.tid cs) (.agg (x.pay cs))
def ToOk (g : Nat → Option (List PV)) (cs : List Kol) (x : Xp) : Prop := FnC (En Tryd.prog g) 36 [xA x, .pv (.lst 3 (cs.map kolE))] (.pv (thE cs x)) []
theorem toLit (cs : List Kol) (v : Vl) : ToOk g cs (.lit v) := by
  have hE := EnOk g
  unfold ToOk
  obtain ⟨vk, vn, vb, vs⟩ := v
  dsimp only [xA, Xp.op, Xp.v, Xp.nm, Xp.as, thE, Xp.tid, Xp.pay]
  refine FnC.of Tryd.func36 rfl rfl rfl rfl ?_
  repeat (first | refine Run.seq ?_ | refine Run.skip ?_ | refine Run.block ?_)
  refine Run.region ?_
  refine O.box 2 rfl (by first | rfl | exact cells_ones (by simp [ones_app, ones_ints, ones, AV.one, PV.one])) rfl rfl ?_
  refine O.assign rfl rfl ?_
  refine O.nil ?_
  try refine Run.keep [0,1,2,4,5,6,9,10,22,42,47,48,49,50,58] rfl rfl ?_
  repeat (first | refine Run.seq ?_ | refine Run.skip ?_ | refine Run.block ?_)
  refine Run.region ?_
  refine O.field hE L28 rfl rfl rfl rfl ?_
  first | refine O.loadS hE T26 rfl rfl rfl (by rfl) rfl ?_ | refine O.loadE hE T26 rfl rfl (by rfl) rfl ?_ | refine O.load hE T26 rfl rfl rfl rfl ?_
  first | refine O.lenN hE T26 rfl rfl rfl (by first | exact newest_pv | exact newest_gl rfl rfl | trivial) lenC rfl ?_ | refine O.lenLst hE T26 rfl rfl rfl (by first | exact newest_pv | exact newest_gl rfl rfl | trivial) rfl ?_
  refine O.nil ?_
  try refine Run.keep [0,1,2,4,5,6,9,10,22,42,47,48,49,50,58] rfl rfl ?_
  repeat (first | refine Run.seq ?_ | refine Run.skip ?_ | refine Run.block ?_)
  refine Run.region ?_
  first | refine O.cmp rfl rfl rfl (by first | exact dT (by omega) | exact dF (by omega)) rfl ?_ | refine O.cmp rfl rfl rfl rfl rfl ?_
  refine O.assign rfl rfl ?_
  refine O.nil ?_
  try refine Run.keep [0,1,2,4,5,6,9,10,22,42,47,48,49,50,58] rfl rfl ?_
  repeat (first | refine Run.seq ?_ | refine Run.skip ?_)
  first | refine Run.condT rfl rfl ?_ | refine Run.condF rfl rfl ?_ | refine Run.condT rfl (by assumption) ?_ | refine Run.condF rfl (by assumption) ?_
  repeat (first | refine Run.seq ?_ | refine Run.skip ?_ | refine Run.block ?_)
  refine Run.region ?_
  first | refine O.cmp rfl rfl rfl (by first | exact dT (by omega) | exact dF (by omega)) rfl ?_ | refine O.cmp rfl rfl rfl rfl rfl ?_
  refine O.assign rfl rfl ?_
  refine O.nil ?_
  try refine Run.keep [0,1,2,4,5,6,9,10,22,42,47,48,49,50,58] rfl rfl ?_
  repeat (first | refine Run.seq ?_ | refine Run.skip ?_)
  first | refine Run.condT rfl rfl ?_ | refine Run.condF rfl rfl ?_ | refine Run.condT rfl (by assumption) ?_ | refine Run.condF rfl (by assumption) ?_
  repeat (first | refine Run.seq ?_ | refine Run.skip ?_ | refine Run.block ?_)
  refine Run.region ?_
  refine O.field hE L28 rfl rfl rfl rfl ?_
  first | refine O.loadS hE T3 rfl rfl rfl (by rfl) rfl ?_ | refine O.loadE hE T3 rfl rfl (by rfl) rfl ?_ | refine O.load hE T3 rfl rfl rfl rfl ?_
  first | refine O.cmp rfl rfl rfl (by first | exact dT (by omega) | exact dF (by omega)) rfl ?_ | refine O.cmp rfl rfl rfl rfl rfl ?_
  refine O.nil ?_
  try refine Run.keep [0,1,2,4,5,6,9,10,22,42,47,48,49,50,58] rfl rfl ?_
  repeat (first | refine Run.seq ?_ | refine Run.skip ?_)
  first | refine Run.condT rfl rfl ?_ | refine Run.condF rfl rfl ?_ | refine Run.condT rfl (by assumption) ?_ | refine Run.condF rfl (by assumption) ?_
  repeat (first | refine Run.seq ?_ | refine Run.skip ?_ | refine Run.block ?_)
  refine Run.region ?_
  refine O.field hE L28 rfl rfl rfl rfl ?_
  refine O.load hE T25 rfl rfl rfl rfl ?_
  refine O.build hE T98 L98 rfl rfl rfl ?_
  refine O.mkIfc hE T98 rfl rfl rfl rfl rfl ?_
  refine O.assign rfl rfl ?_
  refine O.nil ?_
  try refine Run.keep [0,1,2,4,5,6,9,10,22,42,47,48,49,50,58] rfl rfl ?_
  (repeat (first | refine Run.seq ?_ | refine Run.skip ?_)); (try refine Run.ret ?_); first | exact Ends.flat hE (.inr rfl) rfl rfl (AVle.of_eq rfl) rfl | exact Ends.flat hE (.inl rfl) rfl rfl (AVle.of_eq rfl) rfl
theorem toUn {cs : List Kol} {op : Int} {a : Xp} (ha : ToOk g cs a) : ToOk g cs (.un op a) := by
  have hE := EnOk g
  unfold ToOk at ha ⊢
  have hat : ([xE a] : List PV)[(0 : Int).toNat]? = some (xE a) := rfl
  dsimp only [xA, Xp.op, Xp.v, Xp.nm, Xp.as, thE, Xp.tid, Xp.pay] at ha ⊢
  refine FnC.of Tryd.func36 rfl rfl rfl rfl ?_
  repeat (first | refine Run.seq ?_ | refine Run.skip ?_ | refine Run.block ?_)
  refine Run.region ?_
  refine O.box 2 rfl (by first | rfl | exact cells_ones (by simp [ones_app, ones_ints, ones, AV.one, PV.one])) rfl rfl ?_
  refine O.assign rfl rfl ?_
  refine O.nil ?_
  try refine Run.keep [0,1,2,4,5,6,9,10,22,42,47,48,49,50,58] rfl rfl ?_
  repeat (first | refine Run.seq ?_ | refine Run.skip ?_ | refine Run.block ?_)
  refine Run.region ?_
  refine O.field hE L28 rfl rfl rfl rfl ?_
  first | refine O.loadS hE T26 rfl rfl rfl (by rfl) rfl ?_ | refine O.loadE hE T26 rfl rfl (by rfl) rfl ?_ | refine O.load hE T26 rfl rfl rfl rfl ?_
  first | refine O.lenN hE T26 rfl rfl rfl (by first | exact newest_pv | exact newest_gl rfl rfl | trivial) lenC rfl ?_ | refine O.lenLst hE T26 rfl rfl rfl (by first | exact newest_pv | exact newest_gl rfl rfl | trivial) rfl ?_
  refine O.nil ?_
  try refine Run.keep [0,1,2,4,5,6,9,10,22,42,47,48,49,50,58] rfl rfl ?_
  repeat (first | refine Run.seq ?_ | refine Run.skip ?_ | refine Run.block ?_)
  refine Run.region ?_
  first | refine O.cmp rfl rfl rfl (by first | exact dT (by omega) | exact dF (by omega)) rfl ?_ | refine O.cmp rfl rfl rfl rfl rfl ?_
  refine O.assign rfl rfl ?_
  refine O.nil ?_
  try refine Run.keep [0,1,2,4,5,6,9,10,22,42,47,48,49,50,58] rfl rfl ?_
  repeat (first | refine Run.seq ?_ | refine Run.skip ?_)
  first | refine Run.condT rfl rfl ?_ | refine Run.condF rfl rfl ?_ | refine Run.condT rfl (by assumption) ?_ | refine Run.condF rfl (by assumption) ?_
  repeat (first | refine Run.seq ?_ | refine Run.skip ?_ | refine Run.block ?_)
  refine Run.draw mixed rfl ?_
  refine D.field hE L28 rfl rfl rfl rfl ?_
  first | refine D.loadS hE T3 rfl rfl rfl (by rfl) rfl ?_ | refine D.loadE hE T3 rfl rfl (by rfl) rfl ?_ | refine D.load hE T3 rfl rfl rfl rfl ?_
  refine D.field hE L28 rfl rfl rfl rfl ?_
  first | refine D.loadS hE T26 rfl rfl rfl (by rfl) rfl ?_ | refine D.loadE hE T26 rfl rfl (by rfl) rfl ?_ | refine D.load hE T26 rfl rfl rfl rfl ?_
  refine D.index hE T26 rfl T28 rfl rfl (by first | exact newest_pv | exact newest_gl rfl rfl | trivial) rfl (by omega) (by first | assumption | rfl) rfl rfl rfl ?_
  refine D.load hE T28 rfl rfl rfl rfl ?_
  refine D.move rfl rfl ?_
  refine D.callE ha rfl (by first | rfl | simp [closed, men3, mens2_app, mens2_ints, mens2, men2, men1, mens1_app, mens1_ints, mens1]) (by first | rfl | simp [d2, ds1_ints, ds1_app, ds1, d1, ds0_app, ds0_ints, ds0, d0]) rfl ?_
  refine D.build hE T94 L94 rfl rfl rfl ?_
  refine D.mkIfc hE T94 rfl rfl rfl rfl rfl ?_
  refine D.assign rfl rfl ?_
  refine Dr.nil ?_
  refine ⟨rfl, ?_⟩
  try refine Run.keep [0,1,2,4,5,6,9,10,22,42,47,48,49,50,58] rfl rfl ?_
  (repeat (first | refine Run.seq ?_ | refine Run.skip ?_)); (try refine Run.ret ?_); first | exact Ends.flat hE (.inr rfl) rfl rfl (AVle.of_eq rfl) rfl | exact Ends.flat hE (.inl rfl) rfl rfl (AVle.of_eq rfl) rfl
theorem toBi {cs : List Kol} {op : Int} {a b : Xp} (ha : ToOk g cs a) (hb : ToOk g cs b) : ToOk g cs (.bi op a b) := by
  have hE := EnOk g
  unfold ToOk at ha hb ⊢
  have hat0 : ([xE a, xE b] : List PV)[(0 : Int).toNat]? = some (xE a) := rfl
  have hat1 : ([xE a, xE b] : List PV)[(1 : Int).toNat]? = some (xE b) := rfl
  dsimp only [xA, Xp.op, Xp.v, Xp.nm, Xp.as, thE, Xp.tid, Xp.pay] at ha hb ⊢
  refine FnC.of Tryd.func36 rfl rfl rfl rfl ?_
  repeat (first | refine Run.seq ?_ | refine Run.skip ?_ | refine Run.block ?_)
  refine Run.region ?_
  refine O.box 2 rfl (by first | rfl | exact cells_ones (by simp [ones_app, ones_ints, ones, AV.one, PV.one])) rfl rfl ?_
  refine O.assign rfl rfl ?_
  refine O.nil ?_
  try refine Run.keep [0,1,2,4,5,6,9,10,22,42,47,48,49,50,58] rfl rfl ?_
  repeat (first | refine Run.seq ?_ | refine Run.skip ?_ | refine Run.block ?_)
  refine Run.region ?_
  refine O.field hE L28 rfl rfl rfl rfl ?_
  first | refine O.loadS hE T26 rfl rfl rfl (by rfl) rfl ?_ | refine O.loadE hE T26 rfl rfl (by rfl) rfl ?_ | refine O.load hE T26 rfl rfl rfl rfl ?_
  first | refine O.lenN hE T26 rfl rfl rfl (by first | exact newest_pv | exact newest_gl rfl rfl | trivial) lenC rfl ?_ | refine O.lenLst hE T26 rfl rfl rfl (by first | exact newest_pv | exact newest_gl rfl rfl | trivial) rfl ?_
  refine O.nil ?_
  try refine Run.keep [0,1,2,4,5,6,9,10,22,42,47,48,49,50,58] rfl rfl ?_
  repeat (first | refine Run.seq ?_ | refine Run.skip ?_ | refine Run.block ?_)
  refine Run.region ?_
  first | refine O.cmp rfl rfl rfl (by first | exact dT (by omega) | exact dF (by omega)) rfl ?_ | refine O.cmp rfl rfl rfl rfl rfl ?_
  refine O.assign rfl rfl ?_
  refine O.nil ?_
  try refine Run.keep [0,1,2,4,5,6,9,10,22,42,47,48,49,50,58] rfl rfl ?_
  repeat (first | refine Run.seq ?_ | refine Run.skip ?_)
  first | refine Run.condT rfl rfl ?_ | refine Run.condF rfl rfl ?_ | refine Run.condT rfl (by assumption) ?_ | refine Run.condF rfl (by assumption) ?_
  repeat (first | refine Run.seq ?_ | refine Run.skip ?_ | refine Run.block ?_)
  refine Run.region ?_
  first | refine O.cmp rfl rfl rfl (by first | exact dT (by omega) | exact dF (by omega)) rfl ?_ | refine O.cmp rfl rfl rfl rfl rfl ?_
  refine O.assign rfl rfl ?_
  refine O.nil ?_
  try refine Run.keep [0,1,2,4,5,6,9,10,22,42,47,48,49,50,58] rfl rfl ?_
  repeat (first | refine Run.seq ?_ | refine Run.skip ?_)
  first | refine Run.condT rfl rfl ?_ | refine Run.condF rfl rfl ?_ | refine Run.condT rfl (by assumption) ?_ | refine Run.condF rfl (by assumption) ?_
  repeat (first | refine Run.seq ?_ | refine Run.skip ?_ | refine Run.block ?_)
  refine Run.draw mixed rfl ?_
  refine D.field hE L28 rfl rfl rfl rfl ?_
  first | refine D.loadS hE T3 rfl rfl rfl (by rfl) rfl ?_ | refine D.loadE hE T3 rfl rfl (by rfl) rfl ?_ | refine D.load hE T3 rfl rfl rfl rfl ?_
  refine D.field hE L28 rfl rfl rfl rfl ?_
  first | refine D.loadS hE T26 rfl rfl rfl (by rfl) rfl ?_ | refine D.loadE hE T26 rfl rfl (by rfl) rfl ?_ | refine D.load hE T26 rfl rfl rfl rfl ?_
  refine D.index hE T26 rfl T28 rfl rfl newest_pv rfl (by omega) hat0 rfl rfl rfl ?_
  refine D.load hE T28 rfl rfl rfl rfl ?_
  refine D.move rfl rfl ?_
  refine D.callE ha rfl (by first | rfl | simp [closed, men3, mens2_app, mens2_ints, mens2, men2, men1, mens1_app, mens1_ints, mens1]) (by first | rfl | simp [d2, ds1_ints, ds1_app, ds1, d1, ds0_app, ds0_ints, ds0, d0]) rfl ?_
  refine D.field hE L28 rfl rfl rfl rfl ?_
  first | refine D.loadS hE T26 rfl rfl rfl (by rfl) rfl ?_ | refine D.loadE hE T26 rfl rfl (by rfl) rfl ?_ | refine D.load hE T26 rfl rfl rfl rfl ?_
  refine D.index hE T26 rfl T28 rfl rfl newest_pv rfl (by omega) hat1 rfl rfl rfl ?_
  refine D.load hE T28 rfl rfl rfl rfl ?_
  refine D.move rfl rfl ?_
  refine D.callE hb rfl (by first | rfl | simp [closed, men3, mens2_app, mens2_ints, mens2, men2, men1, mens1_app, mens1_ints, mens1]) (by first | rfl | simp [d2, ds1_ints, ds1_app, ds1, d1, ds0_app, ds0_ints, ds0, d0]) rfl ?_
  refine D.build hE T96 L96 rfl rfl rfl ?_
  refine D.mkIfc hE T96 rfl rfl rfl rfl rfl ?_
  refine D.assign rfl rfl ?_
  refine Dr.nil ?_
  refine ⟨rfl, ?_⟩
  try refine Run.keep [0,1,2,4,5,6,9,10,22,42,47,48,49,50,58] rfl rfl ?_
  (repeat (first | refine Run.seq ?_ | refine Run.skip ?_)); (try refine Run.ret ?_); first | exact Ends.flat hE (.inr rfl) rfl rfl (AVle.of_eq rfl) rfl | exact Ends.flat hE (.inl rfl) rfl rfl (AVle.of_eq rfl) rfl
theorem toCol {cs : List Kol} (hl : cs.length ≤ 5) {s : ByteArray} {i : Nat} (hi : idxC cs s = some i) : ToOk g cs (.col s) := by
  have hE := EnOk g
  unfold ToOk
  have hlm : (cs.map kolE).length = cs.length := by simp
  obtain ⟨hil, hi1, hi2⟩ := List.findIdx?_eq_some_iff_getElem.1 hi
  have e2 : Xp.pay cs (.col s) = [.int .i64 (i : Int)] := by simp only [Xp.pay, hi, Option.getD_some]
  dsimp only [thE]
  rw [e2]
  clear e2 hi
  dsimp only [xA, Xp.op, Xp.v, Xp.nm, Xp.as, Xp.tid]
  refine FnC.of Tryd.func36 rfl rfl rfl rfl ?_
  repeat (first | refine Run.seq ?_ | refine Run.skip ?_ | refine Run.block ?_)
  refine Run.region ?_
  refine O.box 2 rfl (by first | rfl | exact cells_ones (by simp [ones_app, ones_ints, ones, AV.one, PV.one])) rfl rfl ?_
  refine O.assign rfl rfl ?_
  refine O.nil ?_
  try refine Run.keep [0,1,2,4,5,6,9,10,22,42,47,48,49,50,58] rfl rfl ?_
  repeat (first | refine Run.seq ?_ | refine Run.skip ?_ | refine Run.block ?_)
  refine Run.region ?_
  refine O.field hE L28 rfl rfl rfl rfl ?_
  first | refine O.loadS hE T26 rfl rfl rfl (by rfl) rfl ?_ | refine O.loadE hE T26 rfl rfl (by rfl) rfl ?_ | refine O.load hE T26 rfl rfl rfl rfl ?_
  first | refine O.lenN hE T26 rfl rfl rfl (by first | exact newest_pv | exact newest_gl rfl rfl | trivial) lenC rfl ?_ | refine O.lenLst hE T26 rfl rfl rfl (by first | exact newest_pv | exact newest_gl rfl rfl | trivial) rfl ?_
  refine O.nil ?_
  try refine Run.keep [0,1,2,4,5,6,9,10,22,42,47,48,49,50,58] rfl rfl ?_
  repeat (first | refine Run.seq ?_ | refine Run.skip ?_ | refine Run.block ?_)
  refine Run.region ?_
  first | refine O.cmp rfl rfl rfl (by first | exact dT (by omega) | exact dF (by omega)) rfl ?_ | refine O.cmp rfl rfl rfl rfl rfl ?_
  refine O.assign rfl rfl ?_
  refine O.nil ?_
  try refine Run.keep [0,1,2,4,5,6,9,10,22,42,47,48,49,50,58] rfl rfl ?_
  repeat (first | refine Run.seq ?_ | refine Run.skip ?_)
  first | refine Run.condT rfl rfl ?_ | refine Run.condF rfl rfl ?_ | refine Run.condT rfl (by assumption) ?_ | refine Run.condF rfl (by assumption) ?_
  repeat (first | refine Run.seq ?_ | refine Run.skip ?_ | refine Run.block ?_)
  refine Run.region ?_
  first | refine O.cmp rfl rfl rfl (by first | exact dT (by omega) | exact dF (by omega)) rfl ?_ | refine O.cmp rfl rfl rfl rfl rfl ?_
  refine O.assign rfl rfl ?_
  refine O.nil ?_
  try refine Run.keep [0,1,2,4,5,6,9,10,22,42,47,48,49,50,58] rfl rfl ?_
  repeat (first | refine Run.seq ?_ | refine Run.skip ?_)
  first | refine Run.condT rfl rfl ?_ | refine Run.condF rfl rfl ?_ | refine Run.condT rfl (by assumption) ?_ | refine Run.condF rfl (by assumption) ?_
  repeat (first | refine Run.seq ?_ | refine Run.skip ?_ | refine Run.block ?_)
  refine Run.region ?_
  refine O.field hE L28 rfl rfl rfl rfl ?_
  first | refine O.loadS hE T3 rfl rfl rfl (by rfl) rfl ?_ | refine O.loadE hE T3 rfl rfl (by rfl) rfl ?_ | refine O.load hE T3 rfl rfl rfl rfl ?_
  first | refine O.cmp rfl rfl rfl (by first | exact dT (by omega) | exact dF (by omega)) rfl ?_ | refine O.cmp rfl rfl rfl rfl rfl ?_
  refine O.nil ?_
  try refine Run.keep [0,1,2,4,5,6,9,10,22,42,47,48,49,50,58] rfl rfl ?_
  repeat (first | refine Run.seq ?_ | refine Run.skip ?_)
  first | refine Run.condT rfl rfl ?_ | refine Run.condF rfl rfl ?_ | refine Run.condT rfl (by assumption) ?_ | refine Run.condF rfl (by assumption) ?_
  repeat (first | refine Run.seq ?_ | refine Run.skip ?_ | refine Run.block ?_)
  refine Run.region ?_
  refine O.move rfl rfl ?_
  first | refine O.lenN hE T29 rfl rfl rfl (by first | exact newest_pv | exact newest_gl rfl rfl | trivial) lenC rfl ?_ | refine O.lenLst hE T29 rfl rfl rfl (by first | exact newest_pv | exact newest_gl rfl rfl | trivial) rfl ?_
  refine O.move rfl rfl ?_
  refine O.nil ?_
  try refine Run.keep [0,1,2,4,5,6,9,10,22,42,47,48,49,50,58] rfl rfl ?_
  repeat (first | refine Run.seq ?_ | refine Run.skip ?_)
  refine Run.block ?_
  refine Run.loopInv (ι := Nat) (fun j => j ≤ i)
    (fun j => ⟨65, [(2, .ptr 2 0), (47, .pv (.lst 3 (cs.map kolE))), (48, .pv (.int .i64 cs.length)), (49, .pv (.int .i64 j))], [(2, .var [.pv (.int .i64 2), .pv (.int .i64 0), .pv (.int .i64 0), .pv (.int .u64 0), .pv (.str noS), .pv (.str s), .pv (.lst 7 [])])]⟩) (fun j => i - j) 0 (by omega) ?_ ?_
  ·
    exact SLe.drop (by repeat (first | exact TmIn.nil | refine TmIn.cons rfl ?_)) (by repeat (first | exact BxIn.nil | refine BxIn.cons rfl ?_)) rfl rfl
  rintro j hj ih
  have hlt : j < cs.length := by omega
  obtain ⟨d, hd⟩ : ∃ d, cs[j]? = some d := ⟨_, List.getElem?_eq_getElem hlt⟩
  have hd2 : cs[j] = d := (List.getElem?_eq_some_iff.1 hd).2
  have hat := kol_at hd
  by_cases hq : j = i
  ·
    subst hq
    have hq' : (d.nm.toList == s.toList) = true := by rw [← hd2]; exact hi1
    obtain ⟨dk, dkd, dnl⟩ := d
    dsimp only [kolE] at hat
    dsimp only at hq'
    repeat (first | refine Run.seq ?_ | refine Run.skip ?_ | refine Run.block ?_)
    refine Run.region ?_
    first | refine O.cmp rfl rfl rfl (by first | exact dT (by omega) | exact dF (by omega)) rfl ?_ | refine O.cmp rfl rfl rfl rfl rfl ?_
    refine O.nil ?_
    try refine Run.keep [0,1,2,4,5,6,9,10,22,42,47,48,49,50,58] rfl rfl ?_
    repeat (first | refine Run.seq ?_ | refine Run.skip ?_)
    first | refine Run.condT rfl rfl ?_ | refine Run.condF rfl rfl ?_ | refine Run.condT rfl (by assumption) ?_ | refine Run.condF rfl (by assumption) ?_
    repeat (first | refine Run.seq ?_ | refine Run.skip ?_ | refine Run.block ?_)
    refine Run.region ?_
    refine O.move rfl rfl ?_
    refine O.index hE T29 rfl T37 rfl rfl (by first | exact newest_pv | exact newest_gl rfl rfl | trivial) rfl (by omega) (by first | assumption | rfl) rfl rfl rfl ?_
    refine O.load hE T37 rfl rfl rfl rfl ?_
    refine O.alloc hE 6 T37 rfl rfl rfl ?_
    refine O.assign rfl rfl ?_
    refine O.store hE T37 rfl rfl rfl rfl rfl rfl ?_
    refine O.nil ?_
    try refine Run.keep [0,1,2,4,5,6,9,10,22,42,47,48,49,50,58] rfl rfl ?_
    repeat (first | refine Run.seq ?_ | refine Run.skip ?_ | refine Run.block ?_)
    refine Run.region ?_
    refine O.field hE L37 rfl rfl rfl rfl ?_
    first | refine O.loadS hE T9 rfl rfl rfl (by rfl) rfl ?_ | refine O.loadE hE T9 rfl rfl (by rfl) rfl ?_ | refine O.load hE T9 rfl rfl rfl rfl ?_
    refine O.field hE L28 rfl rfl rfl rfl ?_
    first | refine O.loadS hE T9 rfl rfl rfl (by rfl) rfl ?_ | refine O.loadE hE T9 rfl rfl (by rfl) rfl ?_ | refine O.load hE T9 rfl rfl rfl rfl ?_
    refine O.strEqK rfl rfl hq' rfl ?_
    refine O.nil ?_
    try refine Run.keep [0,1,2,4,5,6,9,10,22,42,47,48,49,50,58] rfl rfl ?_
    repeat (first | refine Run.seq ?_ | refine Run.skip ?_)
    first | refine Run.condT rfl rfl ?_ | refine Run.condF rfl rfl ?_ | refine Run.condT rfl (by assumption) ?_ | refine Run.condF rfl (by assumption) ?_
    repeat (first | refine Run.seq ?_ | refine Run.skip ?_ | refine Run.block ?_)
    refine Run.region ?_
    refine O.move rfl rfl ?_
    refine O.build hE T100 L100 rfl rfl rfl ?_
    refine O.mkIfc hE T100 rfl rfl rfl rfl rfl ?_
    refine O.assign rfl rfl ?_
    refine O.nil ?_
    try refine Run.keep [0,1,2,4,5,6,9,10,22,42,47,48,49,50,58] rfl rfl ?_
    refine Run.ret ?_
    repeat (first | refine thenR_ret ?_ | refine roundR_ret ?_ | refine blockR_ret ?_)
    exact Ends.of hE (.inr rfl) rfl rfl (SLe.drop (by repeat (first | exact TmIn.nil | refine TmIn.cons rfl ?_)) (by repeat (first | exact BxIn.nil | refine BxIn.cons rfl ?_)) rfl rfl)
  ·
    have hq' : (d.nm.toList == s.toList) = false := by
      have := hi2 j (by omega)
      rw [hd2] at this
      simpa using this
    obtain ⟨dk, dkd, dnl⟩ := d
    dsimp only [kolE] at hat
    dsimp only at hq'
    repeat (first | refine Run.seq ?_ | refine Run.skip ?_ | refine Run.block ?_)
    refine Run.region ?_
    first | refine O.cmp rfl rfl rfl (by first | exact dT (by omega) | exact dF (by omega)) rfl ?_ | refine O.cmp rfl rfl rfl rfl rfl ?_
    refine O.nil ?_
    try refine Run.keep [0,1,2,4,5,6,9,10,22,42,47,48,49,50,58] rfl rfl ?_
    repeat (first | refine Run.seq ?_ | refine Run.skip ?_)
    first | refine Run.condT rfl rfl ?_ | refine Run.condF rfl rfl ?_ | refine Run.condT rfl (by assumption) ?_ | refine Run.condF rfl (by assumption) ?_
    repeat (first | refine Run.seq ?_ | refine Run.skip ?_ | refine Run.block ?_)
    refine Run.region ?_
    refine O.move rfl rfl ?_
    refine O.index hE T29 rfl T37 rfl rfl (by first | exact newest_pv | exact newest_gl rfl rfl | trivial) rfl (by omega) (by first | assumption | rfl) rfl rfl rfl ?_
    refine O.load hE T37 rfl rfl rfl rfl ?_
    refine O.alloc hE 6 T37 rfl rfl rfl ?_
    refine O.assign rfl rfl ?_
    refine O.store hE T37 rfl rfl rfl rfl rfl rfl ?_
    refine O.nil ?_
    try refine Run.keep [0,1,2,4,5,6,9,10,22,42,47,48,49,50,58] rfl rfl ?_
    repeat (first | refine Run.seq ?_ | refine Run.skip ?_ | refine Run.block ?_)
    refine Run.region ?_
    refine O.field hE L37 rfl rfl rfl rfl ?_
    first | refine O.loadS hE T9 rfl rfl rfl (by rfl) rfl ?_ | refine O.loadE hE T9 rfl rfl (by rfl) rfl ?_ | refine O.load hE T9 rfl rfl rfl rfl ?_
    refine O.field hE L28 rfl rfl rfl rfl ?_
    first | refine O.loadS hE T9 rfl rfl rfl (by rfl) rfl ?_ | refine O.loadE hE T9 rfl rfl (by rfl) rfl ?_ | refine O.load hE T9 rfl rfl rfl rfl ?_
    refine O.strEqK rfl rfl hq' rfl ?_
    refine O.nil ?_
    try refine Run.keep [0,1,2,4,5,6,9,10,22,42,47,48,49,50,58] rfl rfl ?_
    repeat (first | refine Run.seq ?_ | refine Run.skip ?_)
    first | refine Run.condT rfl rfl ?_ | refine Run.condF rfl rfl ?_ | refine Run.condT rfl (by assumption) ?_ | refine Run.condF rfl (by assumption) ?_
    repeat (first | refine Run.seq ?_ | refine Run.skip ?_ | refine Run.block ?_)
    refine Run.region ?_
    first | refine O.ar rfl rfl rfl (by exact wrap_i64 (by omega) (by omega)) rfl ?_ | refine O.ar rfl rfl rfl rfl rfl ?_
    refine O.move rfl rfl ?_
    refine O.nil ?_
    try refine Run.keep [0,1,2,4,5,6,9,10,22,42,47,48,49,50,58] rfl rfl ?_
    refine ih (j + 1) _ ?_ (by omega) (by omega)
    exact SLe.drop (by repeat (first | exact TmIn.nil | refine TmIn.cons rfl ?_)) (by repeat (first | exact BxIn.nil | refine BxIn.cons rfl ?_)) rfl rfl
theorem toOk {cs : List Kol} (hl : cs.length ≤ 5) {k : Int} {x : Xp} (h : Ty cs k x) : ToOk g cs x := by
  induction h with
  | lit hv hn hk => exact toLit cs _
  | @col c hf hn =>
    obtain ⟨i, h1, _⟩ := idxC_of hf
    exact toCol hl h1
  | un h ha ih => exact toUn ih
  | bi h ha hb ia ib => exact toBi ia ib
theorem fnEvalG (hV : VStr g) {cs : List Kol} (hc : ColsOk cs) {row : List Vl} (hr : RowOk cs row) {x : Xp} (hw : x.wf) (hd : x.dp ≤ 7) (hs : x.sz ≤ 40) (c3 : ToOk g cs x) (c4 : ThOk g cs row x) (hv : (valP cs row x).2 = 0 ∨ (valP cs row x).1 = v0) : FnC (En Tryd.prog g) 18 [xA x, .pv (.lst 3 (cs.map kolE)), .pv (.lst 4 (row.map vlE))] (.tup [vlA (valP cs row x).1, .pv (.int .i64 (valP cs row x).2)]) [] := by
  have hE := EnOk g
  have c1 := fnXCheck hV hw hd hs
  have c2 := fnKRow hV hc hr
  have hm := meth_x cs x
  unfold ToOk at c3
  unfold ThOk at c4
  clear hw
  generalize valP cs row x = q at *
  obtain ⟨⟨vk, vn, vb, vs⟩, ve⟩ := q
  dsimp only [vlA] at c4 ⊢
  by_cases h0 : ve = 0
  ·
    subst h0
    refine FnC.of Tryd.func18 rfl rfl rfl rfl ?_
    repeat (first | refine Run.seq ?_ | refine Run.skip ?_ | refine Run.block ?_)
    refine Run.region ?_
    refine O.box 3 rfl (by first | rfl | exact cells_ones (by simp [ones_app, ones_ints, ones, AV.one, PV.one])) rfl rfl ?_
    refine O.alloc hE 6 T25 rfl rfl rfl ?_
    refine O.assign rfl rfl ?_
    refine O.nil ?_
    try refine Run.keep [0,1,2,3,6,7,8,9,10,11,15,22,34] rfl rfl ?_
    repeat (first | refine Run.seq ?_ | refine Run.skip ?_ | refine Run.block ?_)
    refine Run.region ?_
    refine O.load hE T28 rfl rfl rfl rfl ?_
    refine O.callE c1 rfl (by first | rfl | simp [closed, men3, mens2_app, mens2_ints, mens2, men2, men1, mens1_app, mens1_ints, mens1]) (by first | rfl | simp [d2, ds1_ints, ds1_app, ds1, d1, ds0_app, ds0_ints, ds0, d0]) rfl ?_
    refine O.assign rfl rfl ?_
    refine O.nil ?_
    try refine Run.keep [0,1,2,3,6,7,8,9,10,11,15,22,34] rfl rfl ?_
    repeat (first | refine Run.seq ?_ | refine Run.skip ?_ | refine Run.block ?_)
    refine Run.region ?_
    refine O.move rfl rfl ?_
    first | refine O.cmp rfl rfl rfl (by first | exact dT (by omega) | exact dF (by omega)) rfl ?_ | refine O.cmp rfl rfl rfl rfl rfl ?_
    refine O.nil ?_
    try refine Run.keep [0,1,2,3,6,7,8,9,10,11,15,22,34] rfl rfl ?_
    repeat (first | refine Run.seq ?_ | refine Run.skip ?_)
    first | refine Run.condT rfl rfl ?_ | refine Run.condF rfl rfl ?_ | refine Run.condT rfl (by assumption) ?_ | refine Run.condF rfl (by assumption) ?_
    repeat (first | refine Run.seq ?_ | refine Run.skip ?_ | refine Run.block ?_)
    refine Run.region ?_
    refine O.move rfl rfl ?_
    refine O.move rfl rfl ?_
    refine O.callE c2 rfl (by first | rfl | simp [closed, men3, mens2_app, mens2_ints, mens2, men2, men1, mens1_app, mens1_ints, mens1]) (by first | rfl | simp [d2, ds1_ints, ds1_app, ds1, d1, ds0_app, ds0_ints, ds0, d0]) rfl ?_
    refine O.assign rfl rfl ?_
    refine O.nil ?_
    try refine Run.keep [0,1,2,3,6,7,8,9,10,11,15,22,34] rfl rfl ?_
    repeat (first | refine Run.seq ?_ | refine Run.skip ?_ | refine Run.block ?_)
    refine Run.region ?_
    refine O.move rfl rfl ?_
    first | refine O.cmp rfl rfl rfl (by first | exact dT (by omega) | exact dF (by omega)) rfl ?_ | refine O.cmp rfl rfl rfl rfl rfl ?_
    refine O.nil ?_
    try refine Run.keep [0,1,2,3,6,7,8,9,10,11,15,22,34] rfl rfl ?_
    repeat (first | refine Run.seq ?_ | refine Run.skip ?_)
    first | refine Run.condT rfl rfl ?_ | refine Run.condF rfl rfl ?_ | refine Run.condT rfl (by assumption) ?_ | refine Run.condF rfl (by assumption) ?_
    repeat (first | refine Run.seq ?_ | refine Run.skip ?_ | refine Run.block ?_)
    refine Run.region ?_
    refine O.load hE T28 rfl rfl rfl rfl ?_
    refine O.move rfl rfl ?_
    refine O.callE c3 rfl (by first | rfl | simp [closed, men3, mens2_app, mens2_ints, mens2, men2, men1, mens1_app, mens1_ints, mens1]) (by first | rfl | simp [d2, ds1_ints, ds1_app, ds1, d1, ds0_app, ds0_ints, ds0, d0]) rfl ?_
    refine O.move rfl rfl ?_
    refine O.invoke1 c4 hm rfl (AVle.of_eq rfl) (closed_pay _ _) rfl rfl ?_
    refine O.move rfl rfl ?_
    refine O.extract rfl rfl rfl ?_
    refine O.extract rfl rfl rfl ?_
    refine O.alloc hE 10 T25 rfl rfl rfl ?_
    refine O.store hE T25 rfl rfl rfl rfl rfl rfl ?_
    refine O.assign rfl rfl ?_
    refine O.nil ?_
    try refine Run.keep [0,1,2,3,6,7,8,9,10,11,15,22,34] rfl rfl ?_
    repeat (first | refine Run.seq ?_ | refine Run.skip ?_ | refine Run.block ?_)
    refine Run.region ?_
    refine O.move rfl rfl ?_
    first | refine O.cmp rfl rfl rfl (by first | exact dT (by omega) | exact dF (by omega)) rfl ?_ | refine O.cmp rfl rfl rfl rfl rfl ?_
    refine O.nil ?_
    try refine Run.keep [0,1,2,3,6,7,8,9,10,11,15,22,34] rfl rfl ?_
    repeat (first | refine Run.seq ?_ | refine Run.skip ?_)
    first | refine Run.condT rfl rfl ?_ | refine Run.condF rfl rfl ?_ | refine Run.condT rfl (by assumption) ?_ | refine Run.condF rfl (by assumption) ?_
    repeat (first | refine Run.seq ?_ | refine Run.skip ?_ | refine Run.block ?_)
    refine Run.region ?_
    refine O.load hE T25 rfl rfl rfl rfl ?_
    refine O.store hE T25 rfl rfl rfl rfl rfl rfl ?_
    refine O.assign rfl rfl ?_
    refine O.nil ?_
    try refine Run.keep [0,1,2,3,6,7,8,9,10,11,15,22,34] rfl rfl ?_
    (repeat (first | refine Run.seq ?_ | refine Run.skip ?_)); (try refine Run.ret ?_); first | exact Ends.flat hE (.inr rfl) rfl rfl (AVle.of_eq rfl) rfl | exact Ends.flat hE (.inl rfl) rfl rfl (AVle.of_eq rfl) rfl
  ·
    have hv0 : (⟨vk, vn, vb, vs⟩ : Vl) = v0 := hv.resolve_left h0
    cases hv0
    refine FnC.of Tryd.func18 rfl rfl rfl rfl ?_
    repeat (first | refine Run.seq ?_ | refine Run.skip ?_ | refine Run.block ?_)
    refine Run.region ?_
    refine O.box 3 rfl (by first | rfl | exact cells_ones (by simp [ones_app, ones_ints, ones, AV.one, PV.one])) rfl rfl ?_
    refine O.alloc hE 6 T25 rfl rfl rfl ?_
    refine O.assign rfl rfl ?_
    refine O.nil ?_
    try refine Run.keep [0,1,2,3,6,7,8,9,10,11,15,22,34] rfl rfl ?_
    repeat (first | refine Run.seq ?_ | refine Run.skip ?_ | refine Run.block ?_)
    refine Run.region ?_
    refine O.load hE T28 rfl rfl rfl rfl ?_
    refine O.callE c1 rfl (by first | rfl | simp [closed, men3, mens2_app, mens2_ints, mens2, men2, men1, mens1_app, mens1_ints, mens1]) (by first | rfl | simp [d2, ds1_ints, ds1_app, ds1, d1, ds0_app, ds0_ints, ds0, d0]) rfl ?_
    refine O.assign rfl rfl ?_
    refine O.nil ?_
    try refine Run.keep [0,1,2,3,6,7,8,9,10,11,15,22,34] rfl rfl ?_
    repeat (first | refine Run.seq ?_ | refine Run.skip ?_ | refine Run.block ?_)
    refine Run.region ?_
    refine O.move rfl rfl ?_
    first | refine O.cmp rfl rfl rfl (by first | exact dT (by omega) | exact dF (by omega)) rfl ?_ | refine O.cmp rfl rfl rfl rfl rfl ?_
    refine O.nil ?_
    try refine Run.keep [0,1,2,3,6,7,8,9,10,11,15,22,34] rfl rfl ?_
    repeat (first | refine Run.seq ?_ | refine Run.skip ?_)
    first | refine Run.condT rfl rfl ?_ | refine Run.condF rfl rfl ?_ | refine Run.condT rfl (by assumption) ?_ | refine Run.condF rfl (by assumption) ?_
    repeat (first | refine Run.seq ?_ | refine Run.skip ?_ | refine Run.block ?_)
    refine Run.region ?_
    refine O.move rfl rfl ?_
    refine O.move rfl rfl ?_
    refine O.callE c2 rfl (by first | rfl | simp [closed, men3, mens2_app, mens2_ints, mens2, men2, men1, mens1_app, mens1_ints, mens1]) (by first | rfl | simp [d2, ds1_ints, ds1_app, ds1, d1, ds0_app, ds0_ints, ds0, d0]) rfl ?_
    refine O.assign rfl rfl ?_
    refine O.nil ?_
    try refine Run.keep [0,1,2,3,6,7,8,9,10,11,15,22,34] rfl rfl ?_
    repeat (first | refine Run.seq ?_ | refine Run.skip ?_ | refine Run.block ?_)
    refine Run.region ?_
    refine O.move rfl rfl ?_
    first | refine O.cmp rfl rfl rfl (by first | exact dT (by omega) | exact dF (by omega)) rfl ?_ | refine O.cmp rfl rfl rfl rfl rfl ?_
    refine O.nil ?_
    try refine Run.keep [0,1,2,3,6,7,8,9,10,11,15,22,34] rfl rfl ?_
    repeat (first | refine Run.seq ?_ | refine Run.skip ?_)
    first | refine Run.condT rfl rfl ?_ | refine Run.condF rfl rfl ?_ | refine Run.condT rfl (by assumption) ?_ | refine Run.condF rfl (by assumption) ?_
    repeat (first | refine Run.seq ?_ | refine Run.skip ?_ | refine Run.block ?_)
    refine Run.region ?_
    refine O.load hE T28 rfl rfl rfl rfl ?_
    refine O.move rfl rfl ?_
    refine O.callE c3 rfl (by first | rfl | simp [closed, men3, mens2_app, mens2_ints, mens2, men2, men1, mens1_app, mens1_ints, mens1]) (by first | rfl | simp [d2, ds1_ints, ds1_app, ds1, d1, ds0_app, ds0_ints, ds0, d0]) rfl ?_
    refine O.move rfl rfl ?_
    refine O.invoke1 c4 hm rfl (AVle.of_eq rfl) (closed_pay _ _) rfl rfl ?_
    refine O.move rfl rfl ?_
    refine O.extract rfl rfl rfl ?_
    refine O.extract rfl rfl rfl ?_
    refine O.alloc hE 10 T25 rfl rfl rfl ?_
    refine O.store hE T25 rfl rfl rfl rfl rfl rfl ?_
    refine O.assign rfl rfl ?_
    refine O.nil ?_
    try refine Run.keep [0,1,2,3,6,7,8,9,10,11,15,22,34] rfl rfl ?_
    repeat (first | refine Run.seq ?_ | refine Run.skip ?_ | refine Run.block ?_)
    refine Run.region ?_
    refine O.move rfl rfl ?_
    first | refine O.cmp rfl rfl rfl (by first | exact dT (by omega) | exact dF (by omega)) rfl ?_ | refine O.cmp rfl rfl rfl rfl rfl ?_
    refine O.nil ?_
    try refine Run.keep [0,1,2,3,6,7,8,9,10,11,15,22,34] rfl rfl ?_
    repeat (first | refine Run.seq ?_ | refine Run.skip ?_)
    first | refine Run.condT rfl rfl ?_ | refine Run.condF rfl rfl ?_ | refine Run.condT rfl (by assumption) ?_ | refine Run.condF rfl (by assumption) ?_
    repeat (first | refine Run.seq ?_ | refine Run.skip ?_ | refine Run.block ?_)
    refine Run.region ?_
    refine O.build hE T25 L25 rfl rfl rfl ?_
    refine O.move rfl rfl ?_
    refine O.store hE T25 rfl rfl rfl rfl rfl rfl ?_
    refine O.assign rfl rfl ?_
    refine O.nil ?_
    try refine Run.keep [0,1,2,3,6,7,8,9,10,11,15,22,34] rfl rfl ?_
    (repeat (first | refine Run.seq ?_ | refine Run.skip ?_)); (try refine Run.ret ?_); first | exact Ends.flat hE (.inr rfl) rfl rfl (AVle.of_eq rfl) rfl | exact Ends.flat hE (.inl rfl) rfl rfl (AVle.of_eq rfl) rfl
theorem fnEval (hV : VStr g) {cs : List Kol} (hc : ColsOk cs) {row : List Vl} (hr : RowOk cs row) {k : Int} {x : Xp} (h : Ty cs k x) (hd : x.dp ≤ 7) (hs : x.sz ≤ 40) : FnC (En Tryd.prog g) 18 [xA x, .pv (.lst 3 (cs.map kolE)), .pv (.lst 4 (row.map vlE))] (.tup [vlA (valP cs row x).1, .pv (.int .i64 (valP cs row x).2)]) [] :=
  fnEvalG hV hc hr h.wf hd hs (toOk hc.len h) (thOk hV hc.len hr h) ((val_ok hr h).imp (fun h => h.1) (fun h => h.1))
theorem fnNumX {n : Int} : FnC (En Tryd.prog g) 24 [.pv (.int .i64 n)] (xA (.lit (vN n))) [] := by
  have hE := EnOk g
  refine FnC.of Tryd.func24 rfl rfl rfl rfl ?_
  repeat (first | refine Run.seq ?_ | refine Run.skip ?_ | refine Run.block ?_)
  refine Run.region ?_
  refine O.alloc hE 2 T28 rfl rfl rfl ?_
  refine O.nil ?_
  try refine Run.keep [0,2] rfl rfl ?_
  repeat (first | refine Run.seq ?_ | refine Run.skip ?_ | refine Run.block ?_)
  refine Run.region ?_
  refine O.move rfl rfl ?_
  refine O.build hE T25 L25 rfl rfl rfl ?_
  refine O.build hE T28 L28 rfl rfl rfl ?_
  refine O.store hE T28 rfl rfl rfl rfl rfl rfl ?_
  refine O.nil ?_
  try refine Run.keep [0,2] rfl rfl ?_
  refine Run.ret ?_
  exact Ends.flat hE (.inr rfl) rfl rfl (AVle.aggs (by repeat (first | exact AVles.nil | refine AVles.cons (AVle.of_eq rfl) ?_ | refine AVles.cons (AVle.nil _) ?_))) rfl
end Go.Proofs.YtdigejpgjnhclaaDoor.Vm
