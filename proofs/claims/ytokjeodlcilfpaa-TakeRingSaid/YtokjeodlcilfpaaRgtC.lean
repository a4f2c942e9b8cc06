/- Grants: those that somebody stands behind, up to the owner. Conditions: none. -/
import Derived.Test.YtokjeodlcilfpaaRgtB
namespace Go.Proofs.Ytokjeodlcilfpaa.Vm
open Go Go.RowKit
set_option linter.unusedVariables false
set_option linter.unusedSimpArgs false
attribute [local irreducible] Ops Dr Run
/-- One grant stands on another one. -/
def onG (h x : Gr) : Bool := h.op && (decide (h.tt = x.fr) && (decide (h.ob = x.ob) && decide (h.rt = x.rt)))
def supB (l : List Gr) (G : List Bool) (x : Gr) (j : Nat) : Bool := match l[j]? with
  | some h => G.getD j false && onG h x
  | none => false
def cand (l : List Gr) (G : List Bool) (i : Nat) : Bool := match l[i]? with
  | some x => !(G.getD i false) && (decide (x.fr = x.ob / 4) || (List.range l.length).any (supB l G x))
  | none => false
def heldF (l : List Gr) : Nat → List Bool → List Bool
  | 0, G => G
  | k + 1, G => match (List.range l.length).find? (cand l G) with
    | some i => heldF l k (G.set i true)
    | none => G
def heldG (l : List Gr) : List Bool := heldF l l.length (List.replicate l.length false)
def selG (l : List Gr) (G : List Bool) : Nat → List Gr
  | 0 => []
  | j + 1 => match l[j]? with
    | some x => if G.getD j false = true then selG l G j ++ [x] else selG l G j
    | none => selG l G j
def heldP (l : List Gr) : List Gr := selG l (heldG l) l.length
def cf : List Bool → Nat
  | [] => 0
  | b :: G => (if b then 0 else 1) + cf G
theorem cf_set : ∀ (G : List Bool) (i : Nat), G[i]? = some false → cf (G.set i true) + 1 = cf G
  | [], i, h => by simp at h
  | b :: G, 0, h => by
    simp at h
    subst h
    simp [cf]; omega
  | b :: G, i + 1, h => by
    have := cf_set G i (by simpa using h)
    simp only [List.set_cons_succ, cf]
    omega
theorem cf_le : ∀ G : List Bool, cf G ≤ G.length
  | [] => by simp [cf]
  | b :: G => by
    have := cf_le G
    simp only [cf, List.length_cons]
    split <;> omega
theorem getD_at {G : List Bool} {i : Nat} {b : Bool} (h : G[i]? = some b) : G.getD i false = b := by rw [List.getD_eq_getElem?_getD, h]; rfl
/-- Cells of truths. -/
abbrev gc (G : List Bool) : List AV := (G.map fun b => PV.int .i64 (if b then 1 else 0)).map AV.pv
theorem gc_len (G : List Bool) : (gc G).length = G.length := by simp
theorem gc_at {G : List Bool} {i : Nat} {b : Bool} (h : G[i]? = some b) : (gc G)[i]? = some (.pv (.int .i64 (if b then 1 else 0))) := by
  rw [List.getElem?_map, List.getElem?_map, h]; rfl
theorem gc_set (G : List Bool) {i : Nat} (h : i < G.length) : setAt (gc G) i [.pv (.int .i64 1)] = gc (G.set i true) := by
  apply List.ext_getElem?
  intro j
  unfold setAt
  rw [List.getElem?_map, List.getElem?_map, List.getElem?_set]
  by_cases c : j < i
  · rw [List.append_assoc, List.getElem?_append_left (by simp; omega), List.getElem?_take, if_pos c, if_neg (by omega), List.getElem?_map, List.getElem?_map]
  · by_cases c2 : j = i
    · subst c2
      rw [List.append_assoc, List.getElem?_append_right (by rw [List.length_take]; exact Nat.min_le_left _ _), if_pos rfl, if_pos h]
      simp [Nat.min_eq_left (Nat.le_of_lt h)]
    · rw [List.getElem?_append_right (by simp; omega), List.getElem?_drop, if_neg (fun e => c2 e.symm), List.getElem?_map, List.getElem?_map]
      congr 3
      simp
      omega
theorem sel_len (l : List Gr) (G : List Bool) : ∀ j, (selG l G j).length ≤ j
  | 0 => by simp [selG]
  | j + 1 => by
    have := sel_len l G j
    rw [selG]
    split
    · split
      · simp; omega
      · omega
    · omega
variable {g : Nat → Option (List PV)}
theorem fnHeld {l : List Gr} (hl : l.length ≤ 96) (hg : ∀ x ∈ l, 0 ≤ x.ob ∧ x.ob < 12) : FnC (En Try.prog g) 28 [.pv (.lst 5 (l.map grE))] (.pv (.lst 5 ((heldP l).map grE))) [] := by
  have hE := EnOk g
  have hlm : (((l.map grE).length : Nat) : Int) = l.length := by simp
  refine FnC.of Try.func28 rfl rfl rfl rfl ?_
  repeat (first | refine Run.seq ?_ | refine Run.skip ?_ | refine Run.block ?_)
  refine Run.region ?_
  refine O.assign rfl rfl ?_
  refine O.nil ?_
  try refine Run.keep [0, 2, 3, 4, 5, 6, 7, 8, 9, 10, 14, 15, 16, 17, 25, 31, 35, 36, 37, 38, 71, 77, 78, 79, 80, 88] rfl rfl ?_
  refine Run.scopeInv (rest := ?rest) (X := ?X) (ι := List Bool × Nat) (fun q => q.1.length = l.length ∧ heldF l q.2 q.1 = heldG l ∧ cf q.1 ≤ q.2) (fun q => ⟨95, [(0, .pv (.lst 5 (l.map grE))), (3, .vrow 13 0 l.length)], [(13, .var (gc q.1))]⟩) (fun q => q.2) (l := 0) ?hf ?hX ?_ ?_
  case hf => exact rfl
  case hX => exact rfl
  ·
    rintro ⟨G, k⟩ ⟨i1, i2, i3⟩ ihS
    dsimp only at i1 i2 i3 ihS ⊢
    repeat (first | refine Run.seq ?_ | refine Run.skip ?_ | refine Run.block ?_)
    refine Run.region ?_
    refine O.move rfl rfl ?_
    refine O.lenN hE T42 rfl rfl rfl newest_pv hlm rfl ?_
    refine O.move rfl rfl ?_
    refine O.nil ?_
    try refine Run.keep [0, 2, 3, 4, 5, 6, 7, 8, 9, 10, 14, 15, 16, 17, 25, 31, 35, 36, 37, 38, 71, 77, 78, 79, 80, 88] rfl rfl ?_
    repeat (first | refine Run.seq ?_ | refine Run.skip ?_)
    refine Run.block ?_
    refine Run.loopInv (ι := Nat) (fun i => i ≤ l.length ∧ ∀ i', i' < i → cand l G i' = false) (fun i => ⟨95, [(0, .pv (.lst 5 (l.map grE))), (3, .vrow 13 0 l.length), (14, .pv (.lst 5 (l.map grE))), (15, .pv (.int .i64 l.length)), (16, .pv (.int .i64 (i : Int)))], [(13, .var (gc G))]⟩) (fun i => l.length - i) 0 ⟨Nat.zero_le _, fun i' h => by omega⟩ ?_ ?_
    ·
      exact SLe.drop (by repeat (first | exact TmIn.nil | refine TmIn.cons rfl ?_)) (by repeat (first | exact BxIn.nil | refine BxIn.cons rfl ?_)) rfl (by first | (simp only [mbx, menB, mens2_pvs, Bool.and_self]; done) | (simp only [mbx, menB, mens2_pvs]; rfl))
    rintro i ⟨hi, hno⟩ ih
    by_cases hlt : i < l.length
    ·
      obtain ⟨x, hx⟩ : ∃ x, l[i]? = some x := ⟨_, List.getElem?_eq_getElem hlt⟩
      obtain ⟨b, hb⟩ : ∃ b, G[i]? = some b := ⟨_, List.getElem?_eq_getElem (by omega)⟩
      have hat : (l.map grE)[(i : Int).toNat]? = some (grE x) := by rw [Int.toNat_natCast, List.getElem?_map, hx]; rfl
      have hcell := gc_at hb
      have hcand : cand l G i = (!b && (decide (x.fr = x.ob / 4) || (List.range l.length).any (supB l G x))) := by
        rw [cand, hx]
        dsimp only
        rw [getD_at hb]
      have hfindof : cand l G i = true → (List.range l.length).find? (cand l G) = some i := fun h => by
        rw [List.find?_range_eq_some]
        exact ⟨h, List.mem_range.2 hlt, fun j hj => by rw [hno j hj]; rfl⟩
      have hxo := hg x (List.mem_of_getElem? hx)
      have c1 := fnOwner (g := g) hxo.1 hxo.2
      have hnext : cand l G i = false → ∀ i', i' < i + 1 → cand l G i' = false := fun h i' hi' => by
        by_cases hij : i' < i
        · exact hno i' hij
        · obtain rfl : i' = i := by omega
          exact h
      cases b with
      | true =>
        have hn := hnext (by rw [hcand]; rfl)
        obtain ⟨fr, tt, ob, rt, op⟩ := x
        repeat (first | refine Run.seq ?_ | refine Run.skip ?_ | refine Run.block ?_)
        refine Run.region ?_
        first | refine O.cmp rfl rfl rfl (by first | exact decide_eq_true (by omega) | exact decide_eq_false (by omega)) rfl ?_ | refine O.cmp rfl rfl rfl rfl rfl ?_
        refine O.nil ?_
        try refine Run.keep [0, 2, 3, 4, 5, 6, 7, 8, 9, 10, 14, 15, 16, 17, 25, 31, 35, 36, 37, 38, 71, 77, 78, 79, 80, 88] rfl rfl ?_
        repeat (first | refine Run.seq ?_ | refine Run.skip ?_)
        first | refine Run.condT rfl rfl ?_ | refine Run.condF rfl rfl ?_ | refine Run.condT rfl (by assumption) ?_ | refine Run.condF rfl (by assumption) ?_
        repeat (first | refine Run.seq ?_ | refine Run.skip ?_ | refine Run.block ?_)
        refine Run.region ?_
        refine O.move rfl rfl ?_
        refine O.index hE T42 rfl T46 rfl rfl newest_pv rfl (by omega) hat rfl rfl rfl ?_
        refine O.load hE T46 rfl rfl rfl rfl ?_
        refine O.alloc hE 5 T46 rfl rfl rfl ?_
        refine O.assign rfl rfl ?_
        refine O.store hE T46 rfl rfl rfl rfl rfl rfl ?_
        refine O.nil ?_
        try refine Run.keep [0, 2, 3, 4, 5, 6, 7, 8, 9, 10, 14, 15, 16, 17, 25, 31, 35, 36, 37, 38, 71, 77, 78, 79, 80, 88] rfl rfl ?_
        repeat (first | refine Run.seq ?_ | refine Run.skip ?_ | refine Run.block ?_)
        refine Run.region ?_
        refine O.move rfl rfl ?_
        refine O.move rfl rfl ?_
        refine O.indexRow (q := i) hE T69 rfl T3 rfl rfl (by omega) (by omega) (show 0 + (i : Int).toNat * 1 = i by omega) rfl ?_
        refine O.loadS hE T3 rfl rfl rfl hcell rfl ?_
        first | refine O.cmp rfl rfl rfl (by first | exact decide_eq_true (by omega) | exact decide_eq_false (by omega)) rfl ?_ | refine O.cmp rfl rfl rfl rfl rfl ?_
        refine O.nil ?_
        try refine Run.keep [0, 2, 3, 4, 5, 6, 7, 8, 9, 10, 14, 15, 16, 17, 25, 31, 35, 36, 37, 38, 71, 77, 78, 79, 80, 88] rfl rfl ?_
        repeat (first | refine Run.seq ?_ | refine Run.skip ?_)
        first | refine Run.condT rfl rfl ?_ | refine Run.condF rfl rfl ?_ | refine Run.condT rfl (by assumption) ?_ | refine Run.condF rfl (by assumption) ?_
        refine Run.exit ?_
        repeat (first | refine thenR_exit ?_ | refine roundR_exit ?_ | refine blockR_exit ?_ | refine blockR_pass rfl ?_)
        repeat (first | refine Run.seq ?_ | refine Run.skip ?_ | refine Run.block ?_)
        refine Run.region ?_
        first | refine O.ar rfl rfl rfl (by exact wrap_i64 (by omega) (by omega)) rfl ?_ | refine O.ar rfl rfl rfl rfl rfl ?_
        refine O.move rfl rfl ?_
        refine O.nil ?_
        try refine Run.keep [0, 2, 3, 4, 5, 6, 7, 8, 9, 10, 14, 15, 16, 17, 25, 31, 35, 36, 37, 38, 71, 77, 78, 79, 80, 88] rfl rfl ?_
        refine ih (i + 1) _ ?_ ⟨by omega, hn⟩ (by omega)
        exact SLe.drop (by repeat (first | exact TmIn.nil | refine TmIn.cons rfl ?_)) (by repeat (first | exact BxIn.nil | refine BxIn.cons rfl ?_)) rfl (by first | (simp only [mbx, menB, mens2_pvs, Bool.and_self]; done) | (simp only [mbx, menB, mens2_pvs]; rfl))
      | false =>
        have hcset := cf_set G i hb
        rw [Bool.not_false, Bool.true_and] at hcand
        by_cases how : x.fr = x.ob / 4
        ·
          have hfind := hfindof (by rw [hcand, decide_eq_true how]; rfl)
          obtain ⟨fr, tt, ob, rt, op⟩ := x
          dsimp only at how c1
          repeat (first | refine Run.seq ?_ | refine Run.skip ?_ | refine Run.block ?_)
          refine Run.region ?_
          first | refine O.cmp rfl rfl rfl (by first | exact decide_eq_true (by omega) | exact decide_eq_false (by omega)) rfl ?_ | refine O.cmp rfl rfl rfl rfl rfl ?_
          refine O.nil ?_
          try refine Run.keep [0, 2, 3, 4, 5, 6, 7, 8, 9, 10, 14, 15, 16, 17, 25, 31, 35, 36, 37, 38, 71, 77, 78, 79, 80, 88] rfl rfl ?_
          repeat (first | refine Run.seq ?_ | refine Run.skip ?_)
          first | refine Run.condT rfl rfl ?_ | refine Run.condF rfl rfl ?_ | refine Run.condT rfl (by assumption) ?_ | refine Run.condF rfl (by assumption) ?_
          repeat (first | refine Run.seq ?_ | refine Run.skip ?_ | refine Run.block ?_)
          refine Run.region ?_
          refine O.move rfl rfl ?_
          refine O.index hE T42 rfl T46 rfl rfl newest_pv rfl (by omega) hat rfl rfl rfl ?_
          refine O.load hE T46 rfl rfl rfl rfl ?_
          refine O.alloc hE 5 T46 rfl rfl rfl ?_
          refine O.assign rfl rfl ?_
          refine O.store hE T46 rfl rfl rfl rfl rfl rfl ?_
          refine O.nil ?_
          try refine Run.keep [0, 2, 3, 4, 5, 6, 7, 8, 9, 10, 14, 15, 16, 17, 25, 31, 35, 36, 37, 38, 71, 77, 78, 79, 80, 88] rfl rfl ?_
          repeat (first | refine Run.seq ?_ | refine Run.skip ?_ | refine Run.block ?_)
          refine Run.region ?_
          refine O.move rfl rfl ?_
          refine O.move rfl rfl ?_
          refine O.indexRow (q := i) hE T69 rfl T3 rfl rfl (by omega) (by omega) (show 0 + (i : Int).toNat * 1 = i by omega) rfl ?_
          refine O.loadS hE T3 rfl rfl rfl hcell rfl ?_
          first | refine O.cmp rfl rfl rfl (by first | exact decide_eq_true (by omega) | exact decide_eq_false (by omega)) rfl ?_ | refine O.cmp rfl rfl rfl rfl rfl ?_
          refine O.nil ?_
          try refine Run.keep [0, 2, 3, 4, 5, 6, 7, 8, 9, 10, 14, 15, 16, 17, 25, 31, 35, 36, 37, 38, 71, 77, 78, 79, 80, 88] rfl rfl ?_
          repeat (first | refine Run.seq ?_ | refine Run.skip ?_)
          first | refine Run.condT rfl rfl ?_ | refine Run.condF rfl rfl ?_ | refine Run.condT rfl (by assumption) ?_ | refine Run.condF rfl (by assumption) ?_
          repeat (first | refine Run.seq ?_ | refine Run.skip ?_ | refine Run.block ?_)
          refine Run.draw mixed rfl ?_
          refine D.field hE L46 rfl rfl rfl rfl ?_
          first | refine D.loadS hE T3 rfl rfl rfl (by rfl) rfl ?_ | refine D.loadE hE T3 rfl rfl (by rfl) rfl ?_ | refine D.load hE T3 rfl rfl rfl rfl ?_
          refine D.field hE L46 rfl rfl rfl rfl ?_
          first | refine D.loadS hE T3 rfl rfl rfl (by rfl) rfl ?_ | refine D.loadE hE T3 rfl rfl (by rfl) rfl ?_ | refine D.load hE T3 rfl rfl rfl rfl ?_
          refine D.callE c1 rfl (by first | rfl | simp [closed, men3, mens2_app, mens2_ints, mens2, men2, men1, mens1_app, mens1_ints, mens1]) (by first | rfl | simp [d2, ds1_ints, ds1_app, ds1, d1, ds0_app, ds0_ints, ds0, d0]) rfl ?_
          refine D.cmp (c' := true) rfl rfl rfl (by simpa using how) rfl ?_
          refine Dr.nil ?_
          refine ⟨rfl, ?_⟩
          try refine Run.keep [0, 2, 3, 4, 5, 6, 7, 8, 9, 10, 14, 15, 16, 17, 25, 31, 35, 36, 37, 38, 71, 77, 78, 79, 80, 88] rfl rfl ?_
          repeat (first | refine Run.seq ?_ | refine Run.skip ?_)
          first | refine Run.condT rfl rfl ?_ | refine Run.condF rfl rfl ?_ | refine Run.condT rfl (by assumption) ?_ | refine Run.condF rfl (by assumption) ?_
          repeat (first | refine Run.seq ?_ | refine Run.skip ?_ | refine Run.block ?_)
          refine Run.region ?_
          refine O.move rfl rfl ?_
          refine O.move rfl rfl ?_
          refine O.indexRow (q := i) hE T69 rfl T3 rfl rfl (by omega) (by omega) (show 0 + (i : Int).toNat * 1 = i by omega) rfl ?_
          refine O.storeS hE T3 rfl rfl rfl rfl rfl (by rw [gc_len]; simp; omega) (gc_set G (i := i) (by omega)) ?_
          refine O.nil ?_
          try refine Run.keep [0, 2, 3, 4, 5, 6, 7, 8, 9, 10, 14, 15, 16, 17, 25, 31, 35, 36, 37, 38, 71, 77, 78, 79, 80, 88] rfl rfl ?_
          refine Run.goto ?_
          repeat (first | refine thenR_goto ?_ | refine roundR_goto ?_ | refine blockR_goto ?_)
          refine jumpR_goto ?_
          refine ihS (G.set i true, k - 1) _ ?_ ⟨by simpa using i1, ?_, ?_⟩ (by dsimp only; omega)
          · dsimp only
            exact SLe.drop (by repeat (first | exact TmIn.nil | refine TmIn.cons rfl ?_)) (by repeat (first | exact BxIn.nil | refine BxIn.cons rfl ?_)) rfl (by first | (simp only [mbx, menB, mens2_pvs, Bool.and_self]; done) | (simp only [mbx, menB, mens2_pvs]; rfl))
          · dsimp only
            obtain ⟨k', rfl⟩ : ∃ k', k = k' + 1 := ⟨k - 1, by omega⟩
            rw [← i2, heldF, hfind]
            rfl
          · dsimp only
            omega
        ·
          rw [decide_eq_false how, Bool.false_or] at hcand
          obtain ⟨fr, tt, ob, rt, op⟩ := x
          dsimp only at how c1
          repeat (first | refine Run.seq ?_ | refine Run.skip ?_ | refine Run.block ?_)
          refine Run.region ?_
          first | refine O.cmp rfl rfl rfl (by first | exact decide_eq_true (by omega) | exact decide_eq_false (by omega)) rfl ?_ | refine O.cmp rfl rfl rfl rfl rfl ?_
          refine O.nil ?_
          try refine Run.keep [0, 2, 3, 4, 5, 6, 7, 8, 9, 10, 14, 15, 16, 17, 25, 31, 35, 36, 37, 38, 71, 77, 78, 79, 80, 88] rfl rfl ?_
          repeat (first | refine Run.seq ?_ | refine Run.skip ?_)
          first | refine Run.condT rfl rfl ?_ | refine Run.condF rfl rfl ?_ | refine Run.condT rfl (by assumption) ?_ | refine Run.condF rfl (by assumption) ?_
          repeat (first | refine Run.seq ?_ | refine Run.skip ?_ | refine Run.block ?_)
          refine Run.region ?_
          refine O.move rfl rfl ?_
          refine O.index hE T42 rfl T46 rfl rfl newest_pv rfl (by omega) hat rfl rfl rfl ?_
          refine O.load hE T46 rfl rfl rfl rfl ?_
          refine O.alloc hE 5 T46 rfl rfl rfl ?_
          refine O.assign rfl rfl ?_
          refine O.store hE T46 rfl rfl rfl rfl rfl rfl ?_
          refine O.nil ?_
          try refine Run.keep [0, 2, 3, 4, 5, 6, 7, 8, 9, 10, 14, 15, 16, 17, 25, 31, 35, 36, 37, 38, 71, 77, 78, 79, 80, 88] rfl rfl ?_
          repeat (first | refine Run.seq ?_ | refine Run.skip ?_ | refine Run.block ?_)
          refine Run.region ?_
          refine O.move rfl rfl ?_
          refine O.move rfl rfl ?_
          refine O.indexRow (q := i) hE T69 rfl T3 rfl rfl (by omega) (by omega) (show 0 + (i : Int).toNat * 1 = i by omega) rfl ?_
          refine O.loadS hE T3 rfl rfl rfl hcell rfl ?_
          first | refine O.cmp rfl rfl rfl (by first | exact decide_eq_true (by omega) | exact decide_eq_false (by omega)) rfl ?_ | refine O.cmp rfl rfl rfl rfl rfl ?_
          refine O.nil ?_
          try refine Run.keep [0, 2, 3, 4, 5, 6, 7, 8, 9, 10, 14, 15, 16, 17, 25, 31, 35, 36, 37, 38, 71, 77, 78, 79, 80, 88] rfl rfl ?_
          repeat (first | refine Run.seq ?_ | refine Run.skip ?_)
          first | refine Run.condT rfl rfl ?_ | refine Run.condF rfl rfl ?_ | refine Run.condT rfl (by assumption) ?_ | refine Run.condF rfl (by assumption) ?_
          repeat (first | refine Run.seq ?_ | refine Run.skip ?_ | refine Run.block ?_)
          refine Run.draw mixed rfl ?_
          refine D.field hE L46 rfl rfl rfl rfl ?_
          first | refine D.loadS hE T3 rfl rfl rfl (by rfl) rfl ?_ | refine D.loadE hE T3 rfl rfl (by rfl) rfl ?_ | refine D.load hE T3 rfl rfl rfl rfl ?_
          refine D.field hE L46 rfl rfl rfl rfl ?_
          first | refine D.loadS hE T3 rfl rfl rfl (by rfl) rfl ?_ | refine D.loadE hE T3 rfl rfl (by rfl) rfl ?_ | refine D.load hE T3 rfl rfl rfl rfl ?_
          refine D.callE c1 rfl (by first | rfl | simp [closed, men3, mens2_app, mens2_ints, mens2, men2, men1, mens1_app, mens1_ints, mens1]) (by first | rfl | simp [d2, ds1_ints, ds1_app, ds1, d1, ds0_app, ds0_ints, ds0, d0]) rfl ?_
          refine D.cmp (c' := false) rfl rfl rfl (by simpa using how) rfl ?_
          refine Dr.nil ?_
          refine ⟨rfl, ?_⟩
          try refine Run.keep [0, 2, 3, 4, 5, 6, 7, 8, 9, 10, 14, 15, 16, 17, 25, 31, 35, 36, 37, 38, 71, 77, 78, 79, 80, 88] rfl rfl ?_
          repeat (first | refine Run.seq ?_ | refine Run.skip ?_)
          first | refine Run.condT rfl rfl ?_ | refine Run.condF rfl rfl ?_ | refine Run.condT rfl (by assumption) ?_ | refine Run.condF rfl (by assumption) ?_
          repeat (first | refine Run.seq ?_ | refine Run.skip ?_ | refine Run.block ?_)
          refine Run.region ?_
          refine O.move rfl rfl ?_
          refine O.lenN hE T42 rfl rfl rfl newest_pv hlm rfl ?_
          refine O.move rfl rfl ?_
          refine O.nil ?_
          try refine Run.keep [0, 2, 3, 4, 5, 6, 7, 8, 9, 10, 14, 15, 16, 17, 25, 31, 35, 36, 37, 38, 71, 77, 78, 79, 80, 88] rfl rfl ?_
          repeat (first | refine Run.seq ?_ | refine Run.skip ?_)
          refine Run.block ?_
          refine Run.loopInv (ι := Nat) (fun j => j ≤ l.length ∧ ∀ j', j' < j → supB l G ⟨fr, tt, ob, rt, op⟩ j' = false) (fun j => ⟨95, [(0, .pv (.lst 5 (l.map grE))), (3, .vrow 13 0 l.length), (4, .pv (.int .i64 (i : Int))), (5, .ptr 5 0), (14, .pv (.lst 5 (l.map grE))), (15, .pv (.int .i64 l.length)), (16, .pv (.int .i64 (i : Int))), (35, .pv (.lst 5 (l.map grE))), (36, .pv (.int .i64 l.length)), (37, .pv (.int .i64 (j : Int)))], [(5, .var [.pv (.int .i64 fr), .pv (.int .i64 tt), .pv (.int .i64 ob), .pv (.int .i64 rt), .pv (.bool op)]), (13, .var (gc G))]⟩) (fun j => l.length - j) 0 ⟨Nat.zero_le _, fun j' h => by omega⟩ ?_ ?_
          ·
            refine SLe.eqv (by repeat (first | exact TmIn.nil | refine TmIn.cons rfl ?_)) (by repeat (first | exact BxIn.nil | refine BxIn.cons rfl ?_)) rfl
          rintro j ⟨hj, hnj⟩ ihj
          by_cases hltj : j < l.length
          ·
            obtain ⟨y, hy⟩ : ∃ y, l[j]? = some y := ⟨_, List.getElem?_eq_getElem hltj⟩
            obtain ⟨bj, hbj⟩ : ∃ bj, G[j]? = some bj := ⟨_, List.getElem?_eq_getElem (by omega)⟩
            have hatj : (l.map grE)[(j : Int).toNat]? = some (grE y) := by rw [Int.toNat_natCast, List.getElem?_map, hy]; rfl
            have hcellj := gc_at hbj
            have hsup : supB l G ⟨fr, tt, ob, rt, op⟩ j = (bj && onG y ⟨fr, tt, ob, rt, op⟩) := by
              rw [supB, hy]
              dsimp only
              rw [getD_at hbj]
            unfold onG at hsup
            obtain ⟨yfr, ytt, yob, yrt, yop⟩ := y
            dsimp only at hsup
            have hnx : supB l G ⟨fr, tt, ob, rt, op⟩ j = false → ∀ j', j' < j + 1 → supB l G ⟨fr, tt, ob, rt, op⟩ j' = false := fun h j' hj' => by
              by_cases hij : j' < j
              · exact hnj j' hij
              · obtain rfl : j' = j := by omega
                exact h
            obtain ⟨q1, h1'⟩ : ∃ q1, decide (ytt = fr) = q1 := ⟨_, rfl⟩
            obtain ⟨q2, h2'⟩ : ∃ q2, decide (yob = ob) = q2 := ⟨_, rfl⟩
            obtain ⟨q3, h3'⟩ : ∃ q3, decide (yrt = rt) = q3 := ⟨_, rfl⟩
            rw [h1', h2', h3'] at hsup
            cases bj with
            | false =>
              repeat (first | refine Run.seq ?_ | refine Run.skip ?_ | refine Run.block ?_)
              refine Run.region ?_
              first | refine O.cmp rfl rfl rfl (by first | exact decide_eq_true (by omega) | exact decide_eq_false (by omega)) rfl ?_ | refine O.cmp rfl rfl rfl rfl rfl ?_
              refine O.nil ?_
              try refine Run.keep [0, 2, 3, 4, 5, 6, 7, 8, 9, 10, 14, 15, 16, 17, 25, 31, 35, 36, 37, 38, 71, 77, 78, 79, 80, 88] rfl rfl ?_
              repeat (first | refine Run.seq ?_ | refine Run.skip ?_)
              first | refine Run.condT rfl rfl ?_ | refine Run.condF rfl rfl ?_ | refine Run.condT rfl (by assumption) ?_ | refine Run.condF rfl (by assumption) ?_
              repeat (first | refine Run.seq ?_ | refine Run.skip ?_ | refine Run.block ?_)
              refine Run.region ?_
              refine O.move rfl rfl ?_
              refine O.index hE T42 rfl T46 rfl rfl newest_pv rfl (by omega) hatj rfl rfl rfl ?_
              refine O.load hE T46 rfl rfl rfl rfl ?_
              refine O.alloc hE 7 T46 rfl rfl rfl ?_
              refine O.assign rfl rfl ?_
              refine O.store hE T46 rfl rfl rfl rfl rfl rfl ?_
              refine O.nil ?_
              try refine Run.keep [0, 2, 3, 4, 5, 6, 7, 8, 9, 10, 14, 15, 16, 17, 25, 31, 35, 36, 37, 38, 71, 77, 78, 79, 80, 88] rfl rfl ?_
              repeat (first | refine Run.seq ?_ | refine Run.skip ?_ | refine Run.block ?_)
              refine Run.region ?_
              refine O.move rfl rfl ?_
              refine O.move rfl rfl ?_
              refine O.indexRow (q := j) hE T69 rfl T3 rfl rfl (by omega) (by omega) (show 0 + (j : Int).toNat * 1 = j by omega) rfl ?_
              refine O.loadS hE T3 rfl rfl rfl hcellj rfl ?_
              first | refine O.cmp rfl rfl rfl (by first | exact decide_eq_true (by omega) | exact decide_eq_false (by omega)) rfl ?_ | refine O.cmp rfl rfl rfl rfl rfl ?_
              refine O.move rfl rfl ?_
              first | (refine O.yes rfl rfl (by first | rfl | assumption) ?_; refine O.field hE L46 rfl rfl rfl rfl ?_) | refine O.no rfl rfl rfl rfl ?_
              first | (refine O.yes rfl rfl (by first | rfl | assumption) ?_; first | refine O.loadS hE T4 rfl rfl rfl (by rfl) rfl ?_ | refine O.loadE hE T4 rfl rfl (by rfl) rfl ?_ | refine O.load hE T4 rfl rfl rfl rfl ?_) | refine O.no rfl rfl rfl rfl ?_
              refine O.pick rfl rfl rfl rfl rfl ?_
              refine O.move rfl rfl ?_
              first | (refine O.yes rfl rfl (by first | rfl | assumption) ?_; refine O.field hE L46 rfl rfl rfl rfl ?_) | refine O.no rfl rfl rfl rfl ?_
              first | (refine O.yes rfl rfl (by first | rfl | assumption) ?_; first | refine O.loadS hE T3 rfl rfl rfl (by rfl) rfl ?_ | refine O.loadE hE T3 rfl rfl (by rfl) rfl ?_ | refine O.load hE T3 rfl rfl rfl rfl ?_) | refine O.no rfl rfl rfl rfl ?_
              first | (refine O.yes rfl rfl (by first | rfl | assumption) ?_; refine O.field hE L46 rfl rfl rfl rfl ?_) | refine O.no rfl rfl rfl rfl ?_
              first | (refine O.yes rfl rfl (by first | rfl | assumption) ?_; first | refine O.loadS hE T3 rfl rfl rfl (by rfl) rfl ?_ | refine O.loadE hE T3 rfl rfl (by rfl) rfl ?_ | refine O.load hE T3 rfl rfl rfl rfl ?_) | refine O.no rfl rfl rfl rfl ?_
              first | (refine O.yes rfl rfl (by first | rfl | assumption) ?_; refine O.cmp (c' := q1) rfl rfl rfl h1' rfl ?_) | refine O.no rfl rfl rfl rfl ?_
              refine O.pick rfl rfl rfl rfl rfl ?_
              refine O.move rfl rfl ?_
              first | (refine O.yes rfl rfl (by first | rfl | assumption) ?_; refine O.field hE L46 rfl rfl rfl rfl ?_) | refine O.no rfl rfl rfl rfl ?_
              first | (refine O.yes rfl rfl (by first | rfl | assumption) ?_; first | refine O.loadS hE T3 rfl rfl rfl (by rfl) rfl ?_ | refine O.loadE hE T3 rfl rfl (by rfl) rfl ?_ | refine O.load hE T3 rfl rfl rfl rfl ?_) | refine O.no rfl rfl rfl rfl ?_
              first | (refine O.yes rfl rfl (by first | rfl | assumption) ?_; refine O.field hE L46 rfl rfl rfl rfl ?_) | refine O.no rfl rfl rfl rfl ?_
              first | (refine O.yes rfl rfl (by first | rfl | assumption) ?_; first | refine O.loadS hE T3 rfl rfl rfl (by rfl) rfl ?_ | refine O.loadE hE T3 rfl rfl (by rfl) rfl ?_ | refine O.load hE T3 rfl rfl rfl rfl ?_) | refine O.no rfl rfl rfl rfl ?_
              first | (refine O.yes rfl rfl (by first | rfl | assumption) ?_; refine O.cmp (c' := q2) rfl rfl rfl h2' rfl ?_) | refine O.no rfl rfl rfl rfl ?_
              refine O.pick rfl rfl rfl rfl rfl ?_
              refine O.move rfl rfl ?_
              first | (refine O.yes rfl rfl (by first | rfl | assumption) ?_; refine O.field hE L46 rfl rfl rfl rfl ?_) | refine O.no rfl rfl rfl rfl ?_
              first | (refine O.yes rfl rfl (by first | rfl | assumption) ?_; first | refine O.loadS hE T3 rfl rfl rfl (by rfl) rfl ?_ | refine O.loadE hE T3 rfl rfl (by rfl) rfl ?_ | refine O.load hE T3 rfl rfl rfl rfl ?_) | refine O.no rfl rfl rfl rfl ?_
              first | (refine O.yes rfl rfl (by first | rfl | assumption) ?_; refine O.field hE L46 rfl rfl rfl rfl ?_) | refine O.no rfl rfl rfl rfl ?_
              first | (refine O.yes rfl rfl (by first | rfl | assumption) ?_; first | refine O.loadS hE T3 rfl rfl rfl (by rfl) rfl ?_ | refine O.loadE hE T3 rfl rfl (by rfl) rfl ?_ | refine O.load hE T3 rfl rfl rfl rfl ?_) | refine O.no rfl rfl rfl rfl ?_
              first | (refine O.yes rfl rfl (by first | rfl | assumption) ?_; refine O.cmp (c' := q3) rfl rfl rfl h3' rfl ?_) | refine O.no rfl rfl rfl rfl ?_
              refine O.pick rfl rfl rfl rfl rfl ?_
              refine O.nil ?_
              try refine Run.keep [0, 2, 3, 4, 5, 6, 7, 8, 9, 10, 14, 15, 16, 17, 25, 31, 35, 36, 37, 38, 71, 77, 78, 79, 80, 88] rfl rfl ?_
              repeat (first | refine Run.seq ?_ | refine Run.skip ?_)
              first | refine Run.condT rfl rfl ?_ | refine Run.condF rfl rfl ?_ | refine Run.condT rfl (by assumption) ?_ | refine Run.condF rfl (by assumption) ?_
              repeat (first | refine Run.seq ?_ | refine Run.skip ?_ | refine Run.block ?_)
              refine Run.region ?_
              first | refine O.ar rfl rfl rfl (by exact wrap_i64 (by omega) (by omega)) rfl ?_ | refine O.ar rfl rfl rfl rfl rfl ?_
              refine O.move rfl rfl ?_
              refine O.nil ?_
              try refine Run.keep [0, 2, 3, 4, 5, 6, 7, 8, 9, 10, 14, 15, 16, 17, 25, 31, 35, 36, 37, 38, 71, 77, 78, 79, 80, 88] rfl rfl ?_
              refine ihj (j + 1) _ ?_ ⟨by omega, hnx (by rw [hsup]; simp)⟩ (by omega)
              exact SLe.drop (by repeat (first | exact TmIn.nil | refine TmIn.cons rfl ?_)) (by repeat (first | exact BxIn.nil | refine BxIn.cons rfl ?_)) rfl (by first | (simp only [mbx, menB, mens2_pvs, Bool.and_self]; done) | (simp only [mbx, menB, mens2_pvs]; rfl))
            | true =>
              cases yop with
              | false =>
                repeat (first | refine Run.seq ?_ | refine Run.skip ?_ | refine Run.block ?_)
                refine Run.region ?_
                first | refine O.cmp rfl rfl rfl (by first | exact decide_eq_true (by omega) | exact decide_eq_false (by omega)) rfl ?_ | refine O.cmp rfl rfl rfl rfl rfl ?_
                refine O.nil ?_
                try refine Run.keep [0, 2, 3, 4, 5, 6, 7, 8, 9, 10, 14, 15, 16, 17, 25, 31, 35, 36, 37, 38, 71, 77, 78, 79, 80, 88] rfl rfl ?_
                repeat (first | refine Run.seq ?_ | refine Run.skip ?_)
                first | refine Run.condT rfl rfl ?_ | refine Run.condF rfl rfl ?_ | refine Run.condT rfl (by assumption) ?_ | refine Run.condF rfl (by assumption) ?_
                repeat (first | refine Run.seq ?_ | refine Run.skip ?_ | refine Run.block ?_)
                refine Run.region ?_
                refine O.move rfl rfl ?_
                refine O.index hE T42 rfl T46 rfl rfl newest_pv rfl (by omega) hatj rfl rfl rfl ?_
                refine O.load hE T46 rfl rfl rfl rfl ?_
                refine O.alloc hE 7 T46 rfl rfl rfl ?_
                refine O.assign rfl rfl ?_
                refine O.store hE T46 rfl rfl rfl rfl rfl rfl ?_
                refine O.nil ?_
                try refine Run.keep [0, 2, 3, 4, 5, 6, 7, 8, 9, 10, 14, 15, 16, 17, 25, 31, 35, 36, 37, 38, 71, 77, 78, 79, 80, 88] rfl rfl ?_
                repeat (first | refine Run.seq ?_ | refine Run.skip ?_ | refine Run.block ?_)
                refine Run.region ?_
                refine O.move rfl rfl ?_
                refine O.move rfl rfl ?_
                refine O.indexRow (q := j) hE T69 rfl T3 rfl rfl (by omega) (by omega) (show 0 + (j : Int).toNat * 1 = j by omega) rfl ?_
                refine O.loadS hE T3 rfl rfl rfl hcellj rfl ?_
                first | refine O.cmp rfl rfl rfl (by first | exact decide_eq_true (by omega) | exact decide_eq_false (by omega)) rfl ?_ | refine O.cmp rfl rfl rfl rfl rfl ?_
                refine O.move rfl rfl ?_
                first | (refine O.yes rfl rfl (by first | rfl | assumption) ?_; refine O.field hE L46 rfl rfl rfl rfl ?_) | refine O.no rfl rfl rfl rfl ?_
                first | (refine O.yes rfl rfl (by first | rfl | assumption) ?_; first | refine O.loadS hE T4 rfl rfl rfl (by rfl) rfl ?_ | refine O.loadE hE T4 rfl rfl (by rfl) rfl ?_ | refine O.load hE T4 rfl rfl rfl rfl ?_) | refine O.no rfl rfl rfl rfl ?_
                refine O.pick rfl rfl rfl rfl rfl ?_
                refine O.move rfl rfl ?_
                first | (refine O.yes rfl rfl (by first | rfl | assumption) ?_; refine O.field hE L46 rfl rfl rfl rfl ?_) | refine O.no rfl rfl rfl rfl ?_
                first | (refine O.yes rfl rfl (by first | rfl | assumption) ?_; first | refine O.loadS hE T3 rfl rfl rfl (by rfl) rfl ?_ | refine O.loadE hE T3 rfl rfl (by rfl) rfl ?_ | refine O.load hE T3 rfl rfl rfl rfl ?_) | refine O.no rfl rfl rfl rfl ?_
                first | (refine O.yes rfl rfl (by first | rfl | assumption) ?_; refine O.field hE L46 rfl rfl rfl rfl ?_) | refine O.no rfl rfl rfl rfl ?_
                first | (refine O.yes rfl rfl (by first | rfl | assumption) ?_; first | refine O.loadS hE T3 rfl rfl rfl (by rfl) rfl ?_ | refine O.loadE hE T3 rfl rfl (by rfl) rfl ?_ | refine O.load hE T3 rfl rfl rfl rfl ?_) | refine O.no rfl rfl rfl rfl ?_
                first | (refine O.yes rfl rfl (by first | rfl | assumption) ?_; refine O.cmp (c' := q1) rfl rfl rfl h1' rfl ?_) | refine O.no rfl rfl rfl rfl ?_
                refine O.pick rfl rfl rfl rfl rfl ?_
                refine O.move rfl rfl ?_
                first | (refine O.yes rfl rfl (by first | rfl | assumption) ?_; refine O.field hE L46 rfl rfl rfl rfl ?_) | refine O.no rfl rfl rfl rfl ?_
                first | (refine O.yes rfl rfl (by first | rfl | assumption) ?_; first | refine O.loadS hE T3 rfl rfl rfl (by rfl) rfl ?_ | refine O.loadE hE T3 rfl rfl (by rfl) rfl ?_ | refine O.load hE T3 rfl rfl rfl rfl ?_) | refine O.no rfl rfl rfl rfl ?_
                first | (refine O.yes rfl rfl (by first | rfl | assumption) ?_; refine O.field hE L46 rfl rfl rfl rfl ?_) | refine O.no rfl rfl rfl rfl ?_
                first | (refine O.yes rfl rfl (by first | rfl | assumption) ?_; first | refine O.loadS hE T3 rfl rfl rfl (by rfl) rfl ?_ | refine O.loadE hE T3 rfl rfl (by rfl) rfl ?_ | refine O.load hE T3 rfl rfl rfl rfl ?_) | refine O.no rfl rfl rfl rfl ?_
                first | (refine O.yes rfl rfl (by first | rfl | assumption) ?_; refine O.cmp (c' := q2) rfl rfl rfl h2' rfl ?_) | refine O.no rfl rfl rfl rfl ?_
                refine O.pick rfl rfl rfl rfl rfl ?_
                refine O.move rfl rfl ?_
                first | (refine O.yes rfl rfl (by first | rfl | assumption) ?_; refine O.field hE L46 rfl rfl rfl rfl ?_) | refine O.no rfl rfl rfl rfl ?_
                first | (refine O.yes rfl rfl (by first | rfl | assumption) ?_; first | refine O.loadS hE T3 rfl rfl rfl (by rfl) rfl ?_ | refine O.loadE hE T3 rfl rfl (by rfl) rfl ?_ | refine O.load hE T3 rfl rfl rfl rfl ?_) | refine O.no rfl rfl rfl rfl ?_
                first | (refine O.yes rfl rfl (by first | rfl | assumption) ?_; refine O.field hE L46 rfl rfl rfl rfl ?_) | refine O.no rfl rfl rfl rfl ?_
                first | (refine O.yes rfl rfl (by first | rfl | assumption) ?_; first | refine O.loadS hE T3 rfl rfl rfl (by rfl) rfl ?_ | refine O.loadE hE T3 rfl rfl (by rfl) rfl ?_ | refine O.load hE T3 rfl rfl rfl rfl ?_) | refine O.no rfl rfl rfl rfl ?_
                first | (refine O.yes rfl rfl (by first | rfl | assumption) ?_; refine O.cmp (c' := q3) rfl rfl rfl h3' rfl ?_) | refine O.no rfl rfl rfl rfl ?_
                refine O.pick rfl rfl rfl rfl rfl ?_
                refine O.nil ?_
                try refine Run.keep [0, 2, 3, 4, 5, 6, 7, 8, 9, 10, 14, 15, 16, 17, 25, 31, 35, 36, 37, 38, 71, 77, 78, 79, 80, 88] rfl rfl ?_
                repeat (first | refine Run.seq ?_ | refine Run.skip ?_)
                first | refine Run.condT rfl rfl ?_ | refine Run.condF rfl rfl ?_ | refine Run.condT rfl (by assumption) ?_ | refine Run.condF rfl (by assumption) ?_
                repeat (first | refine Run.seq ?_ | refine Run.skip ?_ | refine Run.block ?_)
                refine Run.region ?_
                first | refine O.ar rfl rfl rfl (by exact wrap_i64 (by omega) (by omega)) rfl ?_ | refine O.ar rfl rfl rfl rfl rfl ?_
                refine O.move rfl rfl ?_
                refine O.nil ?_
                try refine Run.keep [0, 2, 3, 4, 5, 6, 7, 8, 9, 10, 14, 15, 16, 17, 25, 31, 35, 36, 37, 38, 71, 77, 78, 79, 80, 88] rfl rfl ?_
                refine ihj (j + 1) _ ?_ ⟨by omega, hnx (by rw [hsup]; simp)⟩ (by omega)
                exact SLe.drop (by repeat (first | exact TmIn.nil | refine TmIn.cons rfl ?_)) (by repeat (first | exact BxIn.nil | refine BxIn.cons rfl ?_)) rfl (by first | (simp only [mbx, menB, mens2_pvs, Bool.and_self]; done) | (simp only [mbx, menB, mens2_pvs]; rfl))
              | true =>
                cases q1 with
                | false =>
                  repeat (first | refine Run.seq ?_ | refine Run.skip ?_ | refine Run.block ?_)
                  refine Run.region ?_
                  first | refine O.cmp rfl rfl rfl (by first | exact decide_eq_true (by omega) | exact decide_eq_false (by omega)) rfl ?_ | refine O.cmp rfl rfl rfl rfl rfl ?_
                  refine O.nil ?_
                  try refine Run.keep [0, 2, 3, 4, 5, 6, 7, 8, 9, 10, 14, 15, 16, 17, 25, 31, 35, 36, 37, 38, 71, 77, 78, 79, 80, 88] rfl rfl ?_
                  repeat (first | refine Run.seq ?_ | refine Run.skip ?_)
                  first | refine Run.condT rfl rfl ?_ | refine Run.condF rfl rfl ?_ | refine Run.condT rfl (by assumption) ?_ | refine Run.condF rfl (by assumption) ?_
                  repeat (first | refine Run.seq ?_ | refine Run.skip ?_ | refine Run.block ?_)
                  refine Run.region ?_
                  refine O.move rfl rfl ?_
                  refine O.index hE T42 rfl T46 rfl rfl newest_pv rfl (by omega) hatj rfl rfl rfl ?_
                  refine O.load hE T46 rfl rfl rfl rfl ?_
                  refine O.alloc hE 7 T46 rfl rfl rfl ?_
                  refine O.assign rfl rfl ?_
                  refine O.store hE T46 rfl rfl rfl rfl rfl rfl ?_
                  refine O.nil ?_
                  try refine Run.keep [0, 2, 3, 4, 5, 6, 7, 8, 9, 10, 14, 15, 16, 17, 25, 31, 35, 36, 37, 38, 71, 77, 78, 79, 80, 88] rfl rfl ?_
                  repeat (first | refine Run.seq ?_ | refine Run.skip ?_ | refine Run.block ?_)
                  refine Run.region ?_
                  refine O.move rfl rfl ?_
                  refine O.move rfl rfl ?_
                  refine O.indexRow (q := j) hE T69 rfl T3 rfl rfl (by omega) (by omega) (show 0 + (j : Int).toNat * 1 = j by omega) rfl ?_
                  refine O.loadS hE T3 rfl rfl rfl hcellj rfl ?_
                  first | refine O.cmp rfl rfl rfl (by first | exact decide_eq_true (by omega) | exact decide_eq_false (by omega)) rfl ?_ | refine O.cmp rfl rfl rfl rfl rfl ?_
                  refine O.move rfl rfl ?_
                  first | (refine O.yes rfl rfl (by first | rfl | assumption) ?_; refine O.field hE L46 rfl rfl rfl rfl ?_) | refine O.no rfl rfl rfl rfl ?_
                  first | (refine O.yes rfl rfl (by first | rfl | assumption) ?_; first | refine O.loadS hE T4 rfl rfl rfl (by rfl) rfl ?_ | refine O.loadE hE T4 rfl rfl (by rfl) rfl ?_ | refine O.load hE T4 rfl rfl rfl rfl ?_) | refine O.no rfl rfl rfl rfl ?_
                  refine O.pick rfl rfl rfl rfl rfl ?_
                  refine O.move rfl rfl ?_
                  first | (refine O.yes rfl rfl (by first | rfl | assumption) ?_; refine O.field hE L46 rfl rfl rfl rfl ?_) | refine O.no rfl rfl rfl rfl ?_
                  first | (refine O.yes rfl rfl (by first | rfl | assumption) ?_; first | refine O.loadS hE T3 rfl rfl rfl (by rfl) rfl ?_ | refine O.loadE hE T3 rfl rfl (by rfl) rfl ?_ | refine O.load hE T3 rfl rfl rfl rfl ?_) | refine O.no rfl rfl rfl rfl ?_
                  first | (refine O.yes rfl rfl (by first | rfl | assumption) ?_; refine O.field hE L46 rfl rfl rfl rfl ?_) | refine O.no rfl rfl rfl rfl ?_
                  first | (refine O.yes rfl rfl (by first | rfl | assumption) ?_; first | refine O.loadS hE T3 rfl rfl rfl (by rfl) rfl ?_ | refine O.loadE hE T3 rfl rfl (by rfl) rfl ?_ | refine O.load hE T3 rfl rfl rfl rfl ?_) | refine O.no rfl rfl rfl rfl ?_
                  first | (refine O.yes rfl rfl (by first | rfl | assumption) ?_; refine O.cmp (c' := false) rfl rfl rfl h1' rfl ?_) | refine O.no rfl rfl rfl rfl ?_
                  refine O.pick rfl rfl rfl rfl rfl ?_
                  refine O.move rfl rfl ?_
                  first | (refine O.yes rfl rfl (by first | rfl | assumption) ?_; refine O.field hE L46 rfl rfl rfl rfl ?_) | refine O.no rfl rfl rfl rfl ?_
                  first | (refine O.yes rfl rfl (by first | rfl | assumption) ?_; first | refine O.loadS hE T3 rfl rfl rfl (by rfl) rfl ?_ | refine O.loadE hE T3 rfl rfl (by rfl) rfl ?_ | refine O.load hE T3 rfl rfl rfl rfl ?_) | refine O.no rfl rfl rfl rfl ?_
                  first | (refine O.yes rfl rfl (by first | rfl | assumption) ?_; refine O.field hE L46 rfl rfl rfl rfl ?_) | refine O.no rfl rfl rfl rfl ?_
                  first | (refine O.yes rfl rfl (by first | rfl | assumption) ?_; first | refine O.loadS hE T3 rfl rfl rfl (by rfl) rfl ?_ | refine O.loadE hE T3 rfl rfl (by rfl) rfl ?_ | refine O.load hE T3 rfl rfl rfl rfl ?_) | refine O.no rfl rfl rfl rfl ?_
                  first | (refine O.yes rfl rfl (by first | rfl | assumption) ?_; refine O.cmp (c' := q2) rfl rfl rfl h2' rfl ?_) | refine O.no rfl rfl rfl rfl ?_
                  refine O.pick rfl rfl rfl rfl rfl ?_
                  refine O.move rfl rfl ?_
                  first | (refine O.yes rfl rfl (by first | rfl | assumption) ?_; refine O.field hE L46 rfl rfl rfl rfl ?_) | refine O.no rfl rfl rfl rfl ?_
                  first | (refine O.yes rfl rfl (by first | rfl | assumption) ?_; first | refine O.loadS hE T3 rfl rfl rfl (by rfl) rfl ?_ | refine O.loadE hE T3 rfl rfl (by rfl) rfl ?_ | refine O.load hE T3 rfl rfl rfl rfl ?_) | refine O.no rfl rfl rfl rfl ?_
                  first | (refine O.yes rfl rfl (by first | rfl | assumption) ?_; refine O.field hE L46 rfl rfl rfl rfl ?_) | refine O.no rfl rfl rfl rfl ?_
                  first | (refine O.yes rfl rfl (by first | rfl | assumption) ?_; first | refine O.loadS hE T3 rfl rfl rfl (by rfl) rfl ?_ | refine O.loadE hE T3 rfl rfl (by rfl) rfl ?_ | refine O.load hE T3 rfl rfl rfl rfl ?_) | refine O.no rfl rfl rfl rfl ?_
                  first | (refine O.yes rfl rfl (by first | rfl | assumption) ?_; refine O.cmp (c' := q3) rfl rfl rfl h3' rfl ?_) | refine O.no rfl rfl rfl rfl ?_
                  refine O.pick rfl rfl rfl rfl rfl ?_
                  refine O.nil ?_
                  try refine Run.keep [0, 2, 3, 4, 5, 6, 7, 8, 9, 10, 14, 15, 16, 17, 25, 31, 35, 36, 37, 38, 71, 77, 78, 79, 80, 88] rfl rfl ?_
                  repeat (first | refine Run.seq ?_ | refine Run.skip ?_)
                  first | refine Run.condT rfl rfl ?_ | refine Run.condF rfl rfl ?_ | refine Run.condT rfl (by assumption) ?_ | refine Run.condF rfl (by assumption) ?_
                  repeat (first | refine Run.seq ?_ | refine Run.skip ?_ | refine Run.block ?_)
                  refine Run.region ?_
                  first | refine O.ar rfl rfl rfl (by exact wrap_i64 (by omega) (by omega)) rfl ?_ | refine O.ar rfl rfl rfl rfl rfl ?_
                  refine O.move rfl rfl ?_
                  refine O.nil ?_
                  try refine Run.keep [0, 2, 3, 4, 5, 6, 7, 8, 9, 10, 14, 15, 16, 17, 25, 31, 35, 36, 37, 38, 71, 77, 78, 79, 80, 88] rfl rfl ?_
                  refine ihj (j + 1) _ ?_ ⟨by omega, hnx (by rw [hsup]; simp)⟩ (by omega)
                  exact SLe.drop (by repeat (first | exact TmIn.nil | refine TmIn.cons rfl ?_)) (by repeat (first | exact BxIn.nil | refine BxIn.cons rfl ?_)) rfl (by first | (simp only [mbx, menB, mens2_pvs, Bool.and_self]; done) | (simp only [mbx, menB, mens2_pvs]; rfl))
                | true =>
                  cases q2 with
                  | false =>
                    repeat (first | refine Run.seq ?_ | refine Run.skip ?_ | refine Run.block ?_)
                    refine Run.region ?_
                    first | refine O.cmp rfl rfl rfl (by first | exact decide_eq_true (by omega) | exact decide_eq_false (by omega)) rfl ?_ | refine O.cmp rfl rfl rfl rfl rfl ?_
                    refine O.nil ?_
                    try refine Run.keep [0, 2, 3, 4, 5, 6, 7, 8, 9, 10, 14, 15, 16, 17, 25, 31, 35, 36, 37, 38, 71, 77, 78, 79, 80, 88] rfl rfl ?_
                    repeat (first | refine Run.seq ?_ | refine Run.skip ?_)
                    first | refine Run.condT rfl rfl ?_ | refine Run.condF rfl rfl ?_ | refine Run.condT rfl (by assumption) ?_ | refine Run.condF rfl (by assumption) ?_
                    repeat (first | refine Run.seq ?_ | refine Run.skip ?_ | refine Run.block ?_)
                    refine Run.region ?_
                    refine O.move rfl rfl ?_
                    refine O.index hE T42 rfl T46 rfl rfl newest_pv rfl (by omega) hatj rfl rfl rfl ?_
                    refine O.load hE T46 rfl rfl rfl rfl ?_
                    refine O.alloc hE 7 T46 rfl rfl rfl ?_
                    refine O.assign rfl rfl ?_
                    refine O.store hE T46 rfl rfl rfl rfl rfl rfl ?_
                    refine O.nil ?_
                    try refine Run.keep [0, 2, 3, 4, 5, 6, 7, 8, 9, 10, 14, 15, 16, 17, 25, 31, 35, 36, 37, 38, 71, 77, 78, 79, 80, 88] rfl rfl ?_
                    repeat (first | refine Run.seq ?_ | refine Run.skip ?_ | refine Run.block ?_)
                    refine Run.region ?_
                    refine O.move rfl rfl ?_
                    refine O.move rfl rfl ?_
                    refine O.indexRow (q := j) hE T69 rfl T3 rfl rfl (by omega) (by omega) (show 0 + (j : Int).toNat * 1 = j by omega) rfl ?_
                    refine O.loadS hE T3 rfl rfl rfl hcellj rfl ?_
                    first | refine O.cmp rfl rfl rfl (by first | exact decide_eq_true (by omega) | exact decide_eq_false (by omega)) rfl ?_ | refine O.cmp rfl rfl rfl rfl rfl ?_
                    refine O.move rfl rfl ?_
                    first | (refine O.yes rfl rfl (by first | rfl | assumption) ?_; refine O.field hE L46 rfl rfl rfl rfl ?_) | refine O.no rfl rfl rfl rfl ?_
                    first | (refine O.yes rfl rfl (by first | rfl | assumption) ?_; first | refine O.loadS hE T4 rfl rfl rfl (by rfl) rfl ?_ | refine O.loadE hE T4 rfl rfl (by rfl) rfl ?_ | refine O.load hE T4 rfl rfl rfl rfl ?_) | refine O.no rfl rfl rfl rfl ?_
                    refine O.pick rfl rfl rfl rfl rfl ?_
                    refine O.move rfl rfl ?_
                    first | (refine O.yes rfl rfl (by first | rfl | assumption) ?_; refine O.field hE L46 rfl rfl rfl rfl ?_) | refine O.no rfl rfl rfl rfl ?_
                    first | (refine O.yes rfl rfl (by first | rfl | assumption) ?_; first | refine O.loadS hE T3 rfl rfl rfl (by rfl) rfl ?_ | refine O.loadE hE T3 rfl rfl (by rfl) rfl ?_ | refine O.load hE T3 rfl rfl rfl rfl ?_) | refine O.no rfl rfl rfl rfl ?_
                    first | (refine O.yes rfl rfl (by first | rfl | assumption) ?_; refine O.field hE L46 rfl rfl rfl rfl ?_) | refine O.no rfl rfl rfl rfl ?_
                    first | (refine O.yes rfl rfl (by first | rfl | assumption) ?_; first | refine O.loadS hE T3 rfl rfl rfl (by rfl) rfl ?_ | refine O.loadE hE T3 rfl rfl (by rfl) rfl ?_ | refine O.load hE T3 rfl rfl rfl rfl ?_) | refine O.no rfl rfl rfl rfl ?_
                    first | (refine O.yes rfl rfl (by first | rfl | assumption) ?_; refine O.cmp (c' := true) rfl rfl rfl h1' rfl ?_) | refine O.no rfl rfl rfl rfl ?_
                    refine O.pick rfl rfl rfl rfl rfl ?_
                    refine O.move rfl rfl ?_
                    first | (refine O.yes rfl rfl (by first | rfl | assumption) ?_; refine O.field hE L46 rfl rfl rfl rfl ?_) | refine O.no rfl rfl rfl rfl ?_
                    first | (refine O.yes rfl rfl (by first | rfl | assumption) ?_; first | refine O.loadS hE T3 rfl rfl rfl (by rfl) rfl ?_ | refine O.loadE hE T3 rfl rfl (by rfl) rfl ?_ | refine O.load hE T3 rfl rfl rfl rfl ?_) | refine O.no rfl rfl rfl rfl ?_
                    first | (refine O.yes rfl rfl (by first | rfl | assumption) ?_; refine O.field hE L46 rfl rfl rfl rfl ?_) | refine O.no rfl rfl rfl rfl ?_
                    first | (refine O.yes rfl rfl (by first | rfl | assumption) ?_; first | refine O.loadS hE T3 rfl rfl rfl (by rfl) rfl ?_ | refine O.loadE hE T3 rfl rfl (by rfl) rfl ?_ | refine O.load hE T3 rfl rfl rfl rfl ?_) | refine O.no rfl rfl rfl rfl ?_
                    first | (refine O.yes rfl rfl (by first | rfl | assumption) ?_; refine O.cmp (c' := false) rfl rfl rfl h2' rfl ?_) | refine O.no rfl rfl rfl rfl ?_
                    refine O.pick rfl rfl rfl rfl rfl ?_
                    refine O.move rfl rfl ?_
                    first | (refine O.yes rfl rfl (by first | rfl | assumption) ?_; refine O.field hE L46 rfl rfl rfl rfl ?_) | refine O.no rfl rfl rfl rfl ?_
                    first | (refine O.yes rfl rfl (by first | rfl | assumption) ?_; first | refine O.loadS hE T3 rfl rfl rfl (by rfl) rfl ?_ | refine O.loadE hE T3 rfl rfl (by rfl) rfl ?_ | refine O.load hE T3 rfl rfl rfl rfl ?_) | refine O.no rfl rfl rfl rfl ?_
                    first | (refine O.yes rfl rfl (by first | rfl | assumption) ?_; refine O.field hE L46 rfl rfl rfl rfl ?_) | refine O.no rfl rfl rfl rfl ?_
                    first | (refine O.yes rfl rfl (by first | rfl | assumption) ?_; first | refine O.loadS hE T3 rfl rfl rfl (by rfl) rfl ?_ | refine O.loadE hE T3 rfl rfl (by rfl) rfl ?_ | refine O.load hE T3 rfl rfl rfl rfl ?_) | refine O.no rfl rfl rfl rfl ?_
                    first | (refine O.yes rfl rfl (by first | rfl | assumption) ?_; refine O.cmp (c' := q3) rfl rfl rfl h3' rfl ?_) | refine O.no rfl rfl rfl rfl ?_
                    refine O.pick rfl rfl rfl rfl rfl ?_
                    refine O.nil ?_
                    try refine Run.keep [0, 2, 3, 4, 5, 6, 7, 8, 9, 10, 14, 15, 16, 17, 25, 31, 35, 36, 37, 38, 71, 77, 78, 79, 80, 88] rfl rfl ?_
                    repeat (first | refine Run.seq ?_ | refine Run.skip ?_)
                    first | refine Run.condT rfl rfl ?_ | refine Run.condF rfl rfl ?_ | refine Run.condT rfl (by assumption) ?_ | refine Run.condF rfl (by assumption) ?_
                    repeat (first | refine Run.seq ?_ | refine Run.skip ?_ | refine Run.block ?_)
                    refine Run.region ?_
                    first | refine O.ar rfl rfl rfl (by exact wrap_i64 (by omega) (by omega)) rfl ?_ | refine O.ar rfl rfl rfl rfl rfl ?_
                    refine O.move rfl rfl ?_
                    refine O.nil ?_
                    try refine Run.keep [0, 2, 3, 4, 5, 6, 7, 8, 9, 10, 14, 15, 16, 17, 25, 31, 35, 36, 37, 38, 71, 77, 78, 79, 80, 88] rfl rfl ?_
                    refine ihj (j + 1) _ ?_ ⟨by omega, hnx (by rw [hsup]; simp)⟩ (by omega)
                    exact SLe.drop (by repeat (first | exact TmIn.nil | refine TmIn.cons rfl ?_)) (by repeat (first | exact BxIn.nil | refine BxIn.cons rfl ?_)) rfl (by first | (simp only [mbx, menB, mens2_pvs, Bool.and_self]; done) | (simp only [mbx, menB, mens2_pvs]; rfl))
                  | true =>
                    cases q3 with
                    | false =>
                      repeat (first | refine Run.seq ?_ | refine Run.skip ?_ | refine Run.block ?_)
                      refine Run.region ?_
                      first | refine O.cmp rfl rfl rfl (by first | exact decide_eq_true (by omega) | exact decide_eq_false (by omega)) rfl ?_ | refine O.cmp rfl rfl rfl rfl rfl ?_
                      refine O.nil ?_
                      try refine Run.keep [0, 2, 3, 4, 5, 6, 7, 8, 9, 10, 14, 15, 16, 17, 25, 31, 35, 36, 37, 38, 71, 77, 78, 79, 80, 88] rfl rfl ?_
                      repeat (first | refine Run.seq ?_ | refine Run.skip ?_)
                      first | refine Run.condT rfl rfl ?_ | refine Run.condF rfl rfl ?_ | refine Run.condT rfl (by assumption) ?_ | refine Run.condF rfl (by assumption) ?_
                      repeat (first | refine Run.seq ?_ | refine Run.skip ?_ | refine Run.block ?_)
                      refine Run.region ?_
                      refine O.move rfl rfl ?_
                      refine O.index hE T42 rfl T46 rfl rfl newest_pv rfl (by omega) hatj rfl rfl rfl ?_
                      refine O.load hE T46 rfl rfl rfl rfl ?_
                      refine O.alloc hE 7 T46 rfl rfl rfl ?_
                      refine O.assign rfl rfl ?_
                      refine O.store hE T46 rfl rfl rfl rfl rfl rfl ?_
                      refine O.nil ?_
                      try refine Run.keep [0, 2, 3, 4, 5, 6, 7, 8, 9, 10, 14, 15, 16, 17, 25, 31, 35, 36, 37, 38, 71, 77, 78, 79, 80, 88] rfl rfl ?_
                      repeat (first | refine Run.seq ?_ | refine Run.skip ?_ | refine Run.block ?_)
                      refine Run.region ?_
                      refine O.move rfl rfl ?_
                      refine O.move rfl rfl ?_
                      refine O.indexRow (q := j) hE T69 rfl T3 rfl rfl (by omega) (by omega) (show 0 + (j : Int).toNat * 1 = j by omega) rfl ?_
                      refine O.loadS hE T3 rfl rfl rfl hcellj rfl ?_
                      first | refine O.cmp rfl rfl rfl (by first | exact decide_eq_true (by omega) | exact decide_eq_false (by omega)) rfl ?_ | refine O.cmp rfl rfl rfl rfl rfl ?_
                      refine O.move rfl rfl ?_
                      first | (refine O.yes rfl rfl (by first | rfl | assumption) ?_; refine O.field hE L46 rfl rfl rfl rfl ?_) | refine O.no rfl rfl rfl rfl ?_
                      first | (refine O.yes rfl rfl (by first | rfl | assumption) ?_; first | refine O.loadS hE T4 rfl rfl rfl (by rfl) rfl ?_ | refine O.loadE hE T4 rfl rfl (by rfl) rfl ?_ | refine O.load hE T4 rfl rfl rfl rfl ?_) | refine O.no rfl rfl rfl rfl ?_
                      refine O.pick rfl rfl rfl rfl rfl ?_
                      refine O.move rfl rfl ?_
                      first | (refine O.yes rfl rfl (by first | rfl | assumption) ?_; refine O.field hE L46 rfl rfl rfl rfl ?_) | refine O.no rfl rfl rfl rfl ?_
                      first | (refine O.yes rfl rfl (by first | rfl | assumption) ?_; first | refine O.loadS hE T3 rfl rfl rfl (by rfl) rfl ?_ | refine O.loadE hE T3 rfl rfl (by rfl) rfl ?_ | refine O.load hE T3 rfl rfl rfl rfl ?_) | refine O.no rfl rfl rfl rfl ?_
                      first | (refine O.yes rfl rfl (by first | rfl | assumption) ?_; refine O.field hE L46 rfl rfl rfl rfl ?_) | refine O.no rfl rfl rfl rfl ?_
                      first | (refine O.yes rfl rfl (by first | rfl | assumption) ?_; first | refine O.loadS hE T3 rfl rfl rfl (by rfl) rfl ?_ | refine O.loadE hE T3 rfl rfl (by rfl) rfl ?_ | refine O.load hE T3 rfl rfl rfl rfl ?_) | refine O.no rfl rfl rfl rfl ?_
                      first | (refine O.yes rfl rfl (by first | rfl | assumption) ?_; refine O.cmp (c' := true) rfl rfl rfl h1' rfl ?_) | refine O.no rfl rfl rfl rfl ?_
                      refine O.pick rfl rfl rfl rfl rfl ?_
                      refine O.move rfl rfl ?_
                      first | (refine O.yes rfl rfl (by first | rfl | assumption) ?_; refine O.field hE L46 rfl rfl rfl rfl ?_) | refine O.no rfl rfl rfl rfl ?_
                      first | (refine O.yes rfl rfl (by first | rfl | assumption) ?_; first | refine O.loadS hE T3 rfl rfl rfl (by rfl) rfl ?_ | refine O.loadE hE T3 rfl rfl (by rfl) rfl ?_ | refine O.load hE T3 rfl rfl rfl rfl ?_) | refine O.no rfl rfl rfl rfl ?_
                      first | (refine O.yes rfl rfl (by first | rfl | assumption) ?_; refine O.field hE L46 rfl rfl rfl rfl ?_) | refine O.no rfl rfl rfl rfl ?_
                      first | (refine O.yes rfl rfl (by first | rfl | assumption) ?_; first | refine O.loadS hE T3 rfl rfl rfl (by rfl) rfl ?_ | refine O.loadE hE T3 rfl rfl (by rfl) rfl ?_ | refine O.load hE T3 rfl rfl rfl rfl ?_) | refine O.no rfl rfl rfl rfl ?_
                      first | (refine O.yes rfl rfl (by first | rfl | assumption) ?_; refine O.cmp (c' := true) rfl rfl rfl h2' rfl ?_) | refine O.no rfl rfl rfl rfl ?_
                      refine O.pick rfl rfl rfl rfl rfl ?_
                      refine O.move rfl rfl ?_
                      first | (refine O.yes rfl rfl (by first | rfl | assumption) ?_; refine O.field hE L46 rfl rfl rfl rfl ?_) | refine O.no rfl rfl rfl rfl ?_
                      first | (refine O.yes rfl rfl (by first | rfl | assumption) ?_; first | refine O.loadS hE T3 rfl rfl rfl (by rfl) rfl ?_ | refine O.loadE hE T3 rfl rfl (by rfl) rfl ?_ | refine O.load hE T3 rfl rfl rfl rfl ?_) | refine O.no rfl rfl rfl rfl ?_
                      first | (refine O.yes rfl rfl (by first | rfl | assumption) ?_; refine O.field hE L46 rfl rfl rfl rfl ?_) | refine O.no rfl rfl rfl rfl ?_
                      first | (refine O.yes rfl rfl (by first | rfl | assumption) ?_; first | refine O.loadS hE T3 rfl rfl rfl (by rfl) rfl ?_ | refine O.loadE hE T3 rfl rfl (by rfl) rfl ?_ | refine O.load hE T3 rfl rfl rfl rfl ?_) | refine O.no rfl rfl rfl rfl ?_
                      first | (refine O.yes rfl rfl (by first | rfl | assumption) ?_; refine O.cmp (c' := false) rfl rfl rfl h3' rfl ?_) | refine O.no rfl rfl rfl rfl ?_
                      refine O.pick rfl rfl rfl rfl rfl ?_
                      refine O.nil ?_
                      try refine Run.keep [0, 2, 3, 4, 5, 6, 7, 8, 9, 10, 14, 15, 16, 17, 25, 31, 35, 36, 37, 38, 71, 77, 78, 79, 80, 88] rfl rfl ?_
                      repeat (first | refine Run.seq ?_ | refine Run.skip ?_)
                      first | refine Run.condT rfl rfl ?_ | refine Run.condF rfl rfl ?_ | refine Run.condT rfl (by assumption) ?_ | refine Run.condF rfl (by assumption) ?_
                      repeat (first | refine Run.seq ?_ | refine Run.skip ?_ | refine Run.block ?_)
                      refine Run.region ?_
                      first | refine O.ar rfl rfl rfl (by exact wrap_i64 (by omega) (by omega)) rfl ?_ | refine O.ar rfl rfl rfl rfl rfl ?_
                      refine O.move rfl rfl ?_
                      refine O.nil ?_
                      try refine Run.keep [0, 2, 3, 4, 5, 6, 7, 8, 9, 10, 14, 15, 16, 17, 25, 31, 35, 36, 37, 38, 71, 77, 78, 79, 80, 88] rfl rfl ?_
                      refine ihj (j + 1) _ ?_ ⟨by omega, hnx (by rw [hsup]; simp)⟩ (by omega)
                      exact SLe.drop (by repeat (first | exact TmIn.nil | refine TmIn.cons rfl ?_)) (by repeat (first | exact BxIn.nil | refine BxIn.cons rfl ?_)) rfl (by first | (simp only [mbx, menB, mens2_pvs, Bool.and_self]; done) | (simp only [mbx, menB, mens2_pvs]; rfl))
                    | true =>
                      repeat (first | refine Run.seq ?_ | refine Run.skip ?_ | refine Run.block ?_)
                      refine Run.region ?_
                      first | refine O.cmp rfl rfl rfl (by first | exact decide_eq_true (by omega) | exact decide_eq_false (by omega)) rfl ?_ | refine O.cmp rfl rfl rfl rfl rfl ?_
                      refine O.nil ?_
                      try refine Run.keep [0, 2, 3, 4, 5, 6, 7, 8, 9, 10, 14, 15, 16, 17, 25, 31, 35, 36, 37, 38, 71, 77, 78, 79, 80, 88] rfl rfl ?_
                      repeat (first | refine Run.seq ?_ | refine Run.skip ?_)
                      first | refine Run.condT rfl rfl ?_ | refine Run.condF rfl rfl ?_ | refine Run.condT rfl (by assumption) ?_ | refine Run.condF rfl (by assumption) ?_
                      repeat (first | refine Run.seq ?_ | refine Run.skip ?_ | refine Run.block ?_)
                      refine Run.region ?_
                      refine O.move rfl rfl ?_
                      refine O.index hE T42 rfl T46 rfl rfl newest_pv rfl (by omega) hatj rfl rfl rfl ?_
                      refine O.load hE T46 rfl rfl rfl rfl ?_
                      refine O.alloc hE 7 T46 rfl rfl rfl ?_
                      refine O.assign rfl rfl ?_
                      refine O.store hE T46 rfl rfl rfl rfl rfl rfl ?_
                      refine O.nil ?_
                      try refine Run.keep [0, 2, 3, 4, 5, 6, 7, 8, 9, 10, 14, 15, 16, 17, 25, 31, 35, 36, 37, 38, 71, 77, 78, 79, 80, 88] rfl rfl ?_
                      repeat (first | refine Run.seq ?_ | refine Run.skip ?_ | refine Run.block ?_)
                      refine Run.region ?_
                      refine O.move rfl rfl ?_
                      refine O.move rfl rfl ?_
                      refine O.indexRow (q := j) hE T69 rfl T3 rfl rfl (by omega) (by omega) (show 0 + (j : Int).toNat * 1 = j by omega) rfl ?_
                      refine O.loadS hE T3 rfl rfl rfl hcellj rfl ?_
                      first | refine O.cmp rfl rfl rfl (by first | exact decide_eq_true (by omega) | exact decide_eq_false (by omega)) rfl ?_ | refine O.cmp rfl rfl rfl rfl rfl ?_
                      refine O.move rfl rfl ?_
                      first | (refine O.yes rfl rfl (by first | rfl | assumption) ?_; refine O.field hE L46 rfl rfl rfl rfl ?_) | refine O.no rfl rfl rfl rfl ?_
                      first | (refine O.yes rfl rfl (by first | rfl | assumption) ?_; first | refine O.loadS hE T4 rfl rfl rfl (by rfl) rfl ?_ | refine O.loadE hE T4 rfl rfl (by rfl) rfl ?_ | refine O.load hE T4 rfl rfl rfl rfl ?_) | refine O.no rfl rfl rfl rfl ?_
                      refine O.pick rfl rfl rfl rfl rfl ?_
                      refine O.move rfl rfl ?_
                      first | (refine O.yes rfl rfl (by first | rfl | assumption) ?_; refine O.field hE L46 rfl rfl rfl rfl ?_) | refine O.no rfl rfl rfl rfl ?_
                      first | (refine O.yes rfl rfl (by first | rfl | assumption) ?_; first | refine O.loadS hE T3 rfl rfl rfl (by rfl) rfl ?_ | refine O.loadE hE T3 rfl rfl (by rfl) rfl ?_ | refine O.load hE T3 rfl rfl rfl rfl ?_) | refine O.no rfl rfl rfl rfl ?_
                      first | (refine O.yes rfl rfl (by first | rfl | assumption) ?_; refine O.field hE L46 rfl rfl rfl rfl ?_) | refine O.no rfl rfl rfl rfl ?_
                      first | (refine O.yes rfl rfl (by first | rfl | assumption) ?_; first | refine O.loadS hE T3 rfl rfl rfl (by rfl) rfl ?_ | refine O.loadE hE T3 rfl rfl (by rfl) rfl ?_ | refine O.load hE T3 rfl rfl rfl rfl ?_) | refine O.no rfl rfl rfl rfl ?_
                      first | (refine O.yes rfl rfl (by first | rfl | assumption) ?_; refine O.cmp (c' := true) rfl rfl rfl h1' rfl ?_) | refine O.no rfl rfl rfl rfl ?_
                      refine O.pick rfl rfl rfl rfl rfl ?_
                      refine O.move rfl rfl ?_
                      first | (refine O.yes rfl rfl (by first | rfl | assumption) ?_; refine O.field hE L46 rfl rfl rfl rfl ?_) | refine O.no rfl rfl rfl rfl ?_
                      first | (refine O.yes rfl rfl (by first | rfl | assumption) ?_; first | refine O.loadS hE T3 rfl rfl rfl (by rfl) rfl ?_ | refine O.loadE hE T3 rfl rfl (by rfl) rfl ?_ | refine O.load hE T3 rfl rfl rfl rfl ?_) | refine O.no rfl rfl rfl rfl ?_
                      first | (refine O.yes rfl rfl (by first | rfl | assumption) ?_; refine O.field hE L46 rfl rfl rfl rfl ?_) | refine O.no rfl rfl rfl rfl ?_
                      first | (refine O.yes rfl rfl (by first | rfl | assumption) ?_; first | refine O.loadS hE T3 rfl rfl rfl (by rfl) rfl ?_ | refine O.loadE hE T3 rfl rfl (by rfl) rfl ?_ | refine O.load hE T3 rfl rfl rfl rfl ?_) | refine O.no rfl rfl rfl rfl ?_
                      first | (refine O.yes rfl rfl (by first | rfl | assumption) ?_; refine O.cmp (c' := true) rfl rfl rfl h2' rfl ?_) | refine O.no rfl rfl rfl rfl ?_
                      refine O.pick rfl rfl rfl rfl rfl ?_
                      refine O.move rfl rfl ?_
                      first | (refine O.yes rfl rfl (by first | rfl | assumption) ?_; refine O.field hE L46 rfl rfl rfl rfl ?_) | refine O.no rfl rfl rfl rfl ?_
                      first | (refine O.yes rfl rfl (by first | rfl | assumption) ?_; first | refine O.loadS hE T3 rfl rfl rfl (by rfl) rfl ?_ | refine O.loadE hE T3 rfl rfl (by rfl) rfl ?_ | refine O.load hE T3 rfl rfl rfl rfl ?_) | refine O.no rfl rfl rfl rfl ?_
                      first | (refine O.yes rfl rfl (by first | rfl | assumption) ?_; refine O.field hE L46 rfl rfl rfl rfl ?_) | refine O.no rfl rfl rfl rfl ?_
                      first | (refine O.yes rfl rfl (by first | rfl | assumption) ?_; first | refine O.loadS hE T3 rfl rfl rfl (by rfl) rfl ?_ | refine O.loadE hE T3 rfl rfl (by rfl) rfl ?_ | refine O.load hE T3 rfl rfl rfl rfl ?_) | refine O.no rfl rfl rfl rfl ?_
                      first | (refine O.yes rfl rfl (by first | rfl | assumption) ?_; refine O.cmp (c' := true) rfl rfl rfl h3' rfl ?_) | refine O.no rfl rfl rfl rfl ?_
                      refine O.pick rfl rfl rfl rfl rfl ?_
                      refine O.nil ?_
                      try refine Run.keep [0, 2, 3, 4, 5, 6, 7, 8, 9, 10, 14, 15, 16, 17, 25, 31, 35, 36, 37, 38, 71, 77, 78, 79, 80, 88] rfl rfl ?_
                      repeat (first | refine Run.seq ?_ | refine Run.skip ?_)
                      first | refine Run.condT rfl rfl ?_ | refine Run.condF rfl rfl ?_ | refine Run.condT rfl (by assumption) ?_ | refine Run.condF rfl (by assumption) ?_
                      have hfind := hfindof (by
                        rw [hcand]
                        exact List.any_eq_true.2 ⟨j, List.mem_range.2 hltj, by rw [hsup]; rfl⟩)
                      repeat (first | refine Run.seq ?_ | refine Run.skip ?_ | refine Run.block ?_)
                      refine Run.region ?_
                      refine O.move rfl rfl ?_
                      refine O.move rfl rfl ?_
                      refine O.indexRow (q := i) hE T69 rfl T3 rfl rfl (by omega) (by omega) (show 0 + (i : Int).toNat * 1 = i by omega) rfl ?_
                      refine O.storeS hE T3 rfl rfl rfl rfl rfl (by rw [gc_len]; simp; omega) (gc_set G (i := i) (by omega)) ?_
                      refine O.nil ?_
                      try refine Run.keep [0, 2, 3, 4, 5, 6, 7, 8, 9, 10, 14, 15, 16, 17, 25, 31, 35, 36, 37, 38, 71, 77, 78, 79, 80, 88] rfl rfl ?_
                      refine Run.goto ?_
                      repeat (first | refine thenR_goto ?_ | refine roundR_goto ?_ | refine blockR_goto ?_)
                      refine jumpR_goto ?_
                      refine ihS (G.set i true, k - 1) _ ?_ ⟨by simpa using i1, ?_, ?_⟩ (by dsimp only; omega)
                      · dsimp only
                        exact SLe.drop (by repeat (first | exact TmIn.nil | refine TmIn.cons rfl ?_)) (by repeat (first | exact BxIn.nil | refine BxIn.cons rfl ?_)) rfl (by first | (simp only [mbx, menB, mens2_pvs, Bool.and_self]; done) | (simp only [mbx, menB, mens2_pvs]; rfl))
                      · dsimp only
                        obtain ⟨k', rfl⟩ : ∃ k', k = k' + 1 := ⟨k - 1, by omega⟩
                        rw [← i2, heldF, hfind]
                        rfl
                      · dsimp only
                        omega
          obtain rfl : j = l.length := by omega
          have hn := hnext (by
            rw [hcand]
            rw [List.any_eq_false]
            intro j' hj'
            rw [hnj j' (List.mem_range.1 hj')]
            decide)
          repeat (first | refine Run.seq ?_ | refine Run.skip ?_ | refine Run.block ?_)
          refine Run.region ?_
          first | refine O.cmp rfl rfl rfl (by first | exact decide_eq_true (by omega) | exact decide_eq_false (by omega)) rfl ?_ | refine O.cmp rfl rfl rfl rfl rfl ?_
          refine O.nil ?_
          try refine Run.keep [0, 2, 3, 4, 5, 6, 7, 8, 9, 10, 14, 15, 16, 17, 25, 31, 35, 36, 37, 38, 71, 77, 78, 79, 80, 88] rfl rfl ?_
          repeat (first | refine Run.seq ?_ | refine Run.skip ?_)
          first | refine Run.condT rfl rfl ?_ | refine Run.condF rfl rfl ?_ | refine Run.condT rfl (by assumption) ?_ | refine Run.condF rfl (by assumption) ?_
          refine Run.exit ?_
          repeat (first | refine thenR_exit ?_ | refine roundR_exit ?_ | refine blockR_exit ?_ | refine blockR_pass rfl ?_)
          repeat (first | refine Run.seq ?_ | refine Run.skip ?_ | refine Run.block ?_)
          refine Run.region ?_
          first | refine O.ar rfl rfl rfl (by exact wrap_i64 (by omega) (by omega)) rfl ?_ | refine O.ar rfl rfl rfl rfl rfl ?_
          refine O.move rfl rfl ?_
          refine O.nil ?_
          try refine Run.keep [0, 2, 3, 4, 5, 6, 7, 8, 9, 10, 14, 15, 16, 17, 25, 31, 35, 36, 37, 38, 71, 77, 78, 79, 80, 88] rfl rfl ?_
          refine ih (i + 1) _ ?_ ⟨by omega, hn⟩ (by omega)
          exact SLe.drop (by repeat (first | exact TmIn.nil | refine TmIn.cons rfl ?_)) (by repeat (first | exact BxIn.nil | refine BxIn.cons rfl ?_)) rfl (by first | (simp only [mbx, menB, mens2_pvs, Bool.and_self]; done) | (simp only [mbx, menB, mens2_pvs]; rfl))
    obtain rfl : i = l.length := by omega
    have hGG : G = heldG l := by
      rw [← i2]
      cases k with
      | zero => rfl
      | succ k =>
        have : (List.range l.length).find? (cand l G) = none := by
          rw [List.find?_range_eq_none]
          intro i' hi'
          rw [hno i' hi']
          rfl
        rw [heldF, this]
    repeat (first | refine Run.seq ?_ | refine Run.skip ?_ | refine Run.block ?_)
    refine Run.region ?_
    first | refine O.cmp rfl rfl rfl (by first | exact decide_eq_true (by omega) | exact decide_eq_false (by omega)) rfl ?_ | refine O.cmp rfl rfl rfl rfl rfl ?_
    refine O.nil ?_
    try refine Run.keep [0, 2, 3, 4, 5, 6, 7, 8, 9, 10, 14, 15, 16, 17, 25, 31, 35, 36, 37, 38, 71, 77, 78, 79, 80, 88] rfl rfl ?_
    repeat (first | refine Run.seq ?_ | refine Run.skip ?_)
    first | refine Run.condT rfl rfl ?_ | refine Run.condF rfl rfl ?_ | refine Run.condT rfl (by assumption) ?_ | refine Run.condF rfl (by assumption) ?_
    refine Run.exit ?_
    repeat (first | refine thenR_exit ?_ | refine roundR_exit ?_ | refine blockR_exit ?_ | refine blockR_pass rfl ?_)
    repeat (first | refine Run.seq ?_ | refine Run.skip ?_ | refine Run.block ?_)
    refine Run.region ?_
    refine O.assign rfl rfl ?_
    refine O.nil ?_
    try refine Run.keep [0, 2, 3, 4, 5, 6, 7, 8, 9, 10, 14, 15, 16, 17, 25, 31, 35, 36, 37, 38, 71, 77, 78, 79, 80, 88] rfl rfl ?_
    refine Run.pre (SLe.nilBox (t := 8) (b := 108) (e := 46) (sz := 5) rfl rfl rfl rfl) ?_
    repeat (first | refine Run.seq ?_ | refine Run.skip ?_ | refine Run.block ?_)
    refine Run.region ?_
    refine O.move rfl rfl ?_
    refine O.lenN hE T42 rfl rfl rfl newest_pv hlm rfl ?_
    refine O.move rfl rfl ?_
    refine O.nil ?_
    try refine Run.keep [0, 2, 3, 4, 5, 6, 7, 8, 9, 10, 14, 15, 16, 17, 25, 31, 35, 36, 37, 38, 71, 77, 78, 79, 80, 88] rfl rfl ?_
    repeat (first | refine Run.seq ?_ | refine Run.skip ?_)
    refine Run.block ?_
    refine Run.loopInv (ι := Nat) (fun j => j ≤ l.length) (fun j => ⟨95, [(3, .vrow 13 0 l.length), (8, .gl 108 (selG l G j).length), (77, .pv (.lst 5 (l.map grE))), (78, .pv (.int .i64 l.length)), (79, .pv (.int .i64 (j : Int)))], [(13, .var (gc G)), (108, .lst 46 5 ((selG l G j).map grE))]⟩) (fun j => l.length - j) 0 (Nat.zero_le _) ?_ ?_
    ·
      exact SLe.drop (by repeat (first | exact TmIn.nil | refine TmIn.cons rfl ?_)) (by repeat (first | exact BxIn.nil | refine BxIn.cons rfl ?_)) rfl (by first | (simp only [mbx, menB, mens2_pvs, Bool.and_self]; done) | (simp only [mbx, menB, mens2_pvs]; rfl))
    rintro j hj ihj
    by_cases hltj : j < l.length
    ·
      obtain ⟨y, hy⟩ : ∃ y, l[j]? = some y := ⟨_, List.getElem?_eq_getElem hltj⟩
      obtain ⟨bj, hbj⟩ : ∃ bj, G[j]? = some bj := ⟨_, List.getElem?_eq_getElem (by omega)⟩
      have hatj : (l.map grE)[(j : Int).toNat]? = some (grE y) := by rw [Int.toNat_natCast, List.getElem?_map, hy]; rfl
      have hcellj := gc_at hbj
      have hstep : selG l G (j + 1) = if bj = true then selG l G j ++ [y] else selG l G j := by rw [selG, hy]; dsimp only; rw [getD_at hbj]
      have hlen : (selG l G j).length ≤ j := sel_len l G j
      generalize selG l G j = Q at *
      obtain ⟨fr, tt, ob, rt, op⟩ := y
      cases bj with
      | true =>
        rw [if_pos rfl] at hstep
        repeat (first | refine Run.seq ?_ | refine Run.skip ?_ | refine Run.block ?_)
        refine Run.region ?_
        first | refine O.cmp rfl rfl rfl (by first | exact decide_eq_true (by omega) | exact decide_eq_false (by omega)) rfl ?_ | refine O.cmp rfl rfl rfl rfl rfl ?_
        refine O.nil ?_
        try refine Run.keep [0, 2, 3, 4, 5, 6, 7, 8, 9, 10, 14, 15, 16, 17, 25, 31, 35, 36, 37, 38, 71, 77, 78, 79, 80, 88] rfl rfl ?_
        repeat (first | refine Run.seq ?_ | refine Run.skip ?_)
        first | refine Run.condT rfl rfl ?_ | refine Run.condF rfl rfl ?_ | refine Run.condT rfl (by assumption) ?_ | refine Run.condF rfl (by assumption) ?_
        repeat (first | refine Run.seq ?_ | refine Run.skip ?_ | refine Run.block ?_)
        refine Run.region ?_
        refine O.move rfl rfl ?_
        refine O.index hE T42 rfl T46 rfl rfl newest_pv rfl (by omega) hatj rfl rfl rfl ?_
        refine O.load hE T46 rfl rfl rfl rfl ?_
        refine O.alloc hE 10 T46 rfl rfl rfl ?_
        refine O.assign rfl rfl ?_
        refine O.store hE T46 rfl rfl rfl rfl rfl rfl ?_
        refine O.nil ?_
        try refine Run.keep [0, 2, 3, 4, 5, 6, 7, 8, 9, 10, 14, 15, 16, 17, 25, 31, 35, 36, 37, 38, 71, 77, 78, 79, 80, 88] rfl rfl ?_
        repeat (first | refine Run.seq ?_ | refine Run.skip ?_ | refine Run.block ?_)
        refine Run.region ?_
        refine O.move rfl rfl ?_
        refine O.move rfl rfl ?_
        refine O.indexRow (q := j) hE T69 rfl T3 rfl rfl (by omega) (by omega) (show 0 + (j : Int).toNat * 1 = j by omega) rfl ?_
        refine O.loadS hE T3 rfl rfl rfl hcellj rfl ?_
        first | refine O.cmp rfl rfl rfl (by first | exact decide_eq_true (by omega) | exact decide_eq_false (by omega)) rfl ?_ | refine O.cmp rfl rfl rfl rfl rfl ?_
        refine O.nil ?_
        try refine Run.keep [0, 2, 3, 4, 5, 6, 7, 8, 9, 10, 14, 15, 16, 17, 25, 31, 35, 36, 37, 38, 71, 77, 78, 79, 80, 88] rfl rfl ?_
        repeat (first | refine Run.seq ?_ | refine Run.skip ?_)
        first | refine Run.condT rfl rfl ?_ | refine Run.condF rfl rfl ?_ | refine Run.condT rfl (by assumption) ?_ | refine Run.condF rfl (by assumption) ?_
        repeat (first | refine Run.seq ?_ | refine Run.skip ?_ | refine Run.block ?_)
        refine Run.region ?_
        refine O.move rfl rfl ?_
        refine O.load hE T46 rfl rfl rfl rfl ?_
        refine O.litV hE T42 rfl T46 rfl rfl rfl rfl rfl rfl rfl ?_
        refine O.appM grE (q := Q) (r := [⟨fr, tt, ob, rt, op⟩]) hE T42 rfl T46 rfl rfl rfl rfl rfl newest_pv rfl rfl rfl rfl (by simp; omega) (by simp [maxLen]; omega) rfl ?_
        refine O.assign rfl rfl ?_
        refine O.nil ?_
        try refine Run.keep [0, 2, 3, 4, 5, 6, 7, 8, 9, 10, 14, 15, 16, 17, 25, 31, 35, 36, 37, 38, 71, 77, 78, 79, 80, 88] rfl rfl ?_
        repeat (first | refine Run.seq ?_ | refine Run.skip ?_ | refine Run.block ?_)
        refine Run.region ?_
        first | refine O.ar rfl rfl rfl (by exact wrap_i64 (by omega) (by omega)) rfl ?_ | refine O.ar rfl rfl rfl rfl rfl ?_
        refine O.move rfl rfl ?_
        refine O.nil ?_
        try refine Run.keep [0, 2, 3, 4, 5, 6, 7, 8, 9, 10, 14, 15, 16, 17, 25, 31, 35, 36, 37, 38, 71, 77, 78, 79, 80, 88] rfl rfl ?_
        refine ihj (j + 1) _ ?_ (by omega) (by omega)
        rw [hstep]
        exact SLe.drop (by repeat (first | exact TmIn.nil | refine TmIn.cons rfl ?_)) (by repeat (first | exact BxIn.nil | refine BxIn.cons rfl ?_)) rfl (by first | (simp only [mbx, menB, mens2_pvs, Bool.and_self]; done) | (simp only [mbx, menB, mens2_pvs]; rfl))
      | false =>
        rw [if_neg (by decide)] at hstep
        repeat (first | refine Run.seq ?_ | refine Run.skip ?_ | refine Run.block ?_)
        refine Run.region ?_
        first | refine O.cmp rfl rfl rfl (by first | exact decide_eq_true (by omega) | exact decide_eq_false (by omega)) rfl ?_ | refine O.cmp rfl rfl rfl rfl rfl ?_
        refine O.nil ?_
        try refine Run.keep [0, 2, 3, 4, 5, 6, 7, 8, 9, 10, 14, 15, 16, 17, 25, 31, 35, 36, 37, 38, 71, 77, 78, 79, 80, 88] rfl rfl ?_
        repeat (first | refine Run.seq ?_ | refine Run.skip ?_)
        first | refine Run.condT rfl rfl ?_ | refine Run.condF rfl rfl ?_ | refine Run.condT rfl (by assumption) ?_ | refine Run.condF rfl (by assumption) ?_
        repeat (first | refine Run.seq ?_ | refine Run.skip ?_ | refine Run.block ?_)
        refine Run.region ?_
        refine O.move rfl rfl ?_
        refine O.index hE T42 rfl T46 rfl rfl newest_pv rfl (by omega) hatj rfl rfl rfl ?_
        refine O.load hE T46 rfl rfl rfl rfl ?_
        refine O.alloc hE 10 T46 rfl rfl rfl ?_
        refine O.assign rfl rfl ?_
        refine O.store hE T46 rfl rfl rfl rfl rfl rfl ?_
        refine O.nil ?_
        try refine Run.keep [0, 2, 3, 4, 5, 6, 7, 8, 9, 10, 14, 15, 16, 17, 25, 31, 35, 36, 37, 38, 71, 77, 78, 79, 80, 88] rfl rfl ?_
        repeat (first | refine Run.seq ?_ | refine Run.skip ?_ | refine Run.block ?_)
        refine Run.region ?_
        refine O.move rfl rfl ?_
        refine O.move rfl rfl ?_
        refine O.indexRow (q := j) hE T69 rfl T3 rfl rfl (by omega) (by omega) (show 0 + (j : Int).toNat * 1 = j by omega) rfl ?_
        refine O.loadS hE T3 rfl rfl rfl hcellj rfl ?_
        first | refine O.cmp rfl rfl rfl (by first | exact decide_eq_true (by omega) | exact decide_eq_false (by omega)) rfl ?_ | refine O.cmp rfl rfl rfl rfl rfl ?_
        refine O.nil ?_
        try refine Run.keep [0, 2, 3, 4, 5, 6, 7, 8, 9, 10, 14, 15, 16, 17, 25, 31, 35, 36, 37, 38, 71, 77, 78, 79, 80, 88] rfl rfl ?_
        repeat (first | refine Run.seq ?_ | refine Run.skip ?_)
        first | refine Run.condT rfl rfl ?_ | refine Run.condF rfl rfl ?_ | refine Run.condT rfl (by assumption) ?_ | refine Run.condF rfl (by assumption) ?_
        repeat (first | refine Run.seq ?_ | refine Run.skip ?_ | refine Run.block ?_)
        refine Run.region ?_
        first | refine O.ar rfl rfl rfl (by exact wrap_i64 (by omega) (by omega)) rfl ?_ | refine O.ar rfl rfl rfl rfl rfl ?_
        refine O.move rfl rfl ?_
        refine O.nil ?_
        try refine Run.keep [0, 2, 3, 4, 5, 6, 7, 8, 9, 10, 14, 15, 16, 17, 25, 31, 35, 36, 37, 38, 71, 77, 78, 79, 80, 88] rfl rfl ?_
        refine ihj (j + 1) _ ?_ (by omega) (by omega)
        rw [hstep]
        exact SLe.drop (by repeat (first | exact TmIn.nil | refine TmIn.cons rfl ?_)) (by repeat (first | exact BxIn.nil | refine BxIn.cons rfl ?_)) rfl (by first | (simp only [mbx, menB, mens2_pvs, Bool.and_self]; done) | (simp only [mbx, menB, mens2_pvs]; rfl))
    obtain rfl : j = l.length := by omega
    have hP : selG l G l.length = heldP l := by rw [hGG]; rfl
    rw [hP]
    repeat (first | refine Run.seq ?_ | refine Run.skip ?_ | refine Run.block ?_)
    refine Run.region ?_
    first | refine O.cmp rfl rfl rfl (by first | exact decide_eq_true (by omega) | exact decide_eq_false (by omega)) rfl ?_ | refine O.cmp rfl rfl rfl rfl rfl ?_
    refine O.nil ?_
    try refine Run.keep [0, 2, 3, 4, 5, 6, 7, 8, 9, 10, 14, 15, 16, 17, 25, 31, 35, 36, 37, 38, 71, 77, 78, 79, 80, 88] rfl rfl ?_
    repeat (first | refine Run.seq ?_ | refine Run.skip ?_)
    first | refine Run.condT rfl rfl ?_ | refine Run.condF rfl rfl ?_ | refine Run.condT rfl (by assumption) ?_ | refine Run.condF rfl (by assumption) ?_
    refine Run.exit ?_
    repeat (first | refine thenR_exit ?_ | refine roundR_exit ?_ | refine blockR_exit ?_ | refine blockR_pass rfl ?_)
    repeat (first | refine Run.seq ?_ | refine Run.skip ?_ | refine Run.block ?_)
    refine Run.region ?_
    refine O.move rfl rfl ?_
    refine O.assign rfl rfl ?_
    refine O.nil ?_
    try refine Run.keep [0, 2, 3, 4, 5, 6, 7, 8, 9, 10, 14, 15, 16, 17, 25, 31, 35, 36, 37, 38, 71, 77, 78, 79, 80, 88] rfl rfl ?_
    refine Run.ret ?_
    refine jumpR_ret ?_
    exact Ends.of hE (.inr rfl) rfl rfl (SLe.res0 (AVle.lst _ _ _ (lstOf_glV rfl (by simp))) rfl)
  intro start
  repeat (first | refine Run.seq ?_ | refine Run.skip ?_ | refine Run.block ?_)
  refine Run.region ?_
  refine O.move rfl rfl ?_
  refine O.lenN hE T42 rfl rfl rfl newest_pv hlm rfl ?_
  refine O.makeRow (m := l.length) hE 13 T69 rfl T3 rfl rfl rfl rfl (by dsimp only; omega) (by unfold maxLen; omega) rfl rfl ?_
  refine O.assign rfl rfl ?_
  refine O.nil ?_
  try refine Run.keep [0, 2, 3, 4, 5, 6, 7, 8, 9, 10, 14, 15, 16, 17, 25, 31, 35, 36, 37, 38, 71, 77, 78, 79, 80, 88] rfl rfl ?_
  refine Run.seq ?_
  refine Run.label ?_
  refine start (List.replicate l.length false, l.length) _ ?_ ⟨by simp, rfl, by have := cf_le (List.replicate l.length false); simpa using this⟩
  have e0 : List.replicate l.length (AV.pv (PV.int .i64 0)) = gc (List.replicate l.length false) := by rw [gc, List.map_replicate, List.map_replicate]; rfl
  rw [e0]
  exact SLe.drop (by repeat (first | exact TmIn.nil | refine TmIn.cons rfl ?_)) (by repeat (first | exact BxIn.nil | refine BxIn.cons rfl ?_)) rfl (by first | (simp only [mbx, menB, mens2_pvs, Bool.and_self]; done) | (simp only [mbx, menB, mens2_pvs]; rfl))
end Go.Proofs.Ytokjeodlcilfpaa.Vm
