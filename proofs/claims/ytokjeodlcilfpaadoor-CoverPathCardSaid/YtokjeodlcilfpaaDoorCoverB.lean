/- Covers: the cover of slots some of which are open. Conditions: the table of steps has 64 words. -/
import Derived.Test.YtokjeodlcilfpaaDoorCoverA
namespace Go.Proofs.YtokjeodlcilfpaaDoor.Vm
open Go Go.RowKit
set_option linter.unusedVariables false
set_option linter.unusedSimpArgs false
attribute [local irreducible] Ops Dr Run digP
variable {g : Nat → Option (List PV)}
def rootQ (D : Int → List (List Int) → List Int) (k : Nat) (ss : List Sl) : List Int := (upN D (ss.map (leafP D)) k).getD 0 []
def covP (D : Int → List (List Int) → List Int) : Nat → List Sl → List Bool → List Sl × List (List Int)
  | 0, ss, os => if os.any id then (ss.take 1, []) else ([], [rootQ D 0 ss])
  | k + 1, ss, os => if os.any id then ((covP D k (ss.take (2 ^ k)) (os.take (2 ^ k))).1 ++ (covP D k (ss.drop (2 ^ k)) (os.drop (2 ^ k))).1, (covP D k (ss.take (2 ^ k)) (os.take (2 ^ k))).2 ++ (covP D k (ss.drop (2 ^ k)) (os.drop (2 ^ k))).2) else ([], [rootQ D (k + 1) ss])
theorem covP_len {D : Int → List (List Int) → List Int} : ∀ (k : Nat) (ss : List Sl) (os : List Bool), (covP D k ss os).1.length ≤ 2 ^ k ∧ (covP D k ss os).2.length ≤ 2 ^ k
  | 0, ss, os => by
    rw [covP]
    split
    · exact ⟨by rw [List.length_take]; exact Nat.min_le_left _ _, by simp⟩
    · exact ⟨by simp, by simp⟩
  | k + 1, ss, os => by
    rw [covP]
    have h1 := covP_len (D := D) k (ss.take (2 ^ k)) (os.take (2 ^ k))
    have h2 := covP_len (D := D) k (ss.drop (2 ^ k)) (os.drop (2 ^ k))
    have hp : 2 ^ (k + 1) = 2 * 2 ^ k := by rw [Nat.pow_succ]; omega
    have hq : 1 ≤ 2 ^ k := Nat.pow_pos (by decide)
    split
    · exact ⟨by rw [List.length_append]; omega, by rw [List.length_append]; omega⟩
    · exact ⟨by simp, by simp only [List.length_cons, List.length_nil]; omega⟩
def sub {α : Type} (l : List α) (a n : Nat) : List α := (l.drop a).take n
theorem sub_len {α : Type} {l : List α} {a n : Nat} (h : a + n ≤ l.length) : (sub l a n).length = n := by unfold sub; rw [List.length_take, List.length_drop]; omega
theorem sub_take {α : Type} {l : List α} {a n m : Nat} (h : m ≤ n) : (sub l a n).take m = sub l a m := by unfold sub; rw [List.take_take, Nat.min_eq_left h]
theorem sub_drop {α : Type} {l : List α} {a n m : Nat} : (sub l a n).drop m = sub l (a + m) (n - m) := by unfold sub; rw [List.drop_take, List.drop_drop]
theorem sub_map {α β : Type} {l : List α} (f : α → β) {a b : Nat} {i j : Int} (hi : i.toNat = a) (hj : j.toNat = b) : ((l.map f).take j.toNat).drop i.toNat = (sub l a (b - a)).map f := by
  subst hi
  subst hj
  unfold sub
  rw [List.drop_take, List.map_take, List.map_drop]
theorem fnRootQ {T : List Int → List Int → List Int} (hT : Feeds g T) {mode : Int} (hm : mode = 1 ∨ mode = 2) {k : Nat} {ss : List Sl} (hk : k ≤ 4) (hl : ss.length = 2 ^ k) (hs : ∀ s ∈ ss, Sok s) : FnC (En Tryd.prog g) 20 [.pv (.int .i64 mode), .pv (.lst 3 (ss.map slE))] (.tup [.pv (bys (rootQ (digP T mode) k ss)), .pv (.int .i64 0)]) [] := by
  have hR := tree_ok hT hm (k := k) (by omega) (r := ss.map (leafP (digP T mode))) (by simp [hl]) (fun p hp => by obtain ⟨s, hs', rfl⟩ := List.mem_map.1 hp; exact leaf_len (hs s hs')) (fun p hp => by obtain ⟨s, hs', rfl⟩ := List.mem_map.1 hp; exact digP_pos _ _)
  exact fnRootS hT hm hk hl hs hR rfl
/-- The boxes of the walk: whether open, the mode, the slots, the cover, the walk itself, the cover's lists. -/
abbrev cbx (mode : Int) (ss : List Sl) (os : List Bool) (A : List Sl) (B : List (List Int)) : List (Nat × Box) :=
  [(5, .var [.pv (.lst 1 (os.map PV.bool))]), (3, .var [.pv (.int .i64 mode)]), (4, .var [.pv (.lst 3 (ss.map slE))]), (10, .var [.gl 100 A.length, .gl 101 B.length]), (11, .var [.clo 32 [.ptr 5 0, .ptr 3 0, .ptr 4 0, .ptr 10 0, .ptr 11 0]]), (100, .lst 41 3 (A.map slE)), (101, .lst 33 1 (B.map bys))]
abbrev lnC : List Nat := [5, 3, 4, 10, 11]
theorem elems_slot {E : Env} {tm : List (Nat × AV)} {rb : List (Nat × Box)} {x : Operand} {f : Bool} {b1 b2 n1 n2 e1 e2 : Nat} {salt data : List Int} (hx : evO E tm x = some (.agg [.pv (.bool f), .gl b1 n1, .gl b2 n2])) (h1 : look rb b1 = some (.lst e1 1 (salt.map (PV.int .u8)))) (h2 : look rb b2 = some (.lst e2 1 (data.map (PV.int .u8)))) (hn1 : n1 = salt.length) (hn2 : n2 = data.length) :
    elemsO E rb tm 3 0 [(0, x)] = some [slE ⟨f, salt, data⟩] := by
  have t1 : (salt.map (PV.int .u8)).take n1 = salt.map (PV.int .u8) := List.take_of_length_le (by simp [hn1])
  have t2 : (data.map (PV.int .u8)).take n2 = data.map (PV.int .u8) := List.take_of_length_le (by simp [hn2])
  have hp : pubO rb (.agg [.pv (.bool f), .gl b1 n1, .gl b2 n2]) = some (slE ⟨f, salt, data⟩) := by
    simp only [pubO, pubsO, pub1O, h1, h2, t1, t2]
    rfl
  simp only [elemsO, hx, Option.bind_some, hp]
  rfl
theorem covP_zero {D : Int → List (List Int) → List Int} {ss : List Sl} {os : List Bool} : covP D 0 ss os = if os.any id then (ss.take 1, []) else ([], [rootQ D 0 ss]) := by rw [covP]
theorem covP_succ {D : Int → List (List Int) → List Int} {k : Nat} {ss : List Sl} {os : List Bool} : covP D (k + 1) ss os = if os.any id then ((covP D k (ss.take (2 ^ k)) (os.take (2 ^ k))).1 ++ (covP D k (ss.drop (2 ^ k)) (os.drop (2 ^ k))).1, (covP D k (ss.take (2 ^ k)) (os.take (2 ^ k))).2 ++ (covP D k (ss.drop (2 ^ k)) (os.drop (2 ^ k))).2) else ([], [rootQ D (k + 1) ss]) := by rw [covP]
theorem fnWalk {T : List Int → List Int → List Int} (hT : Feeds g T) {mode : Int} (hm : mode = 1 ∨ mode = 2) {ss : List Sl} {os : List Bool} (hs : ∀ s ∈ ss, Sok s) (hlo : os.length = ss.length) (hls : ss.length ≤ 16) : ∀ (k a : Nat) (A : List Sl) (B : List (List Int)), k ≤ 4 → a + 2 ^ k ≤ ss.length → A.length + 2 ^ k ≤ 1000 → B.length + 2 ^ k ≤ 1000 →
    FnL (EnL Tryd.prog g lnC) 32 [.pv (.int .i64 (a : Int)), .pv (.int .i64 ((a + 2 ^ k : Nat) : Int)), .ptr 5 0, .ptr 3 0, .ptr 4 0, .ptr 10 0, .ptr 11 0] (cbx mode ss os A B) (.pv (.int .i64 0)) (cbx mode ss os (A ++ (covP (digP T mode) k (sub ss a (2 ^ k)) (sub os a (2 ^ k))).1) (B ++ (covP (digP T mode) k (sub ss a (2 ^ k)) (sub os a (2 ^ k))).2)) := by
  intro k
  induction k with
  | zero =>
    intro a A B hk hab hA hB
    have hE := EnLOk g lnC
    rw [show 2 ^ 0 = 1 from rfl] at hab hA hB ⊢
    rw [covP_zero]
    have hmo : (os.map PV.bool).length = os.length := by simp
    have hms : (ss.map slE).length = ss.length := by simp
    have c1 := (fnAny (g := g) (sub os a 1) (by rw [sub_len (by omega)]; omega)).lent lnC
    have hyo : ((os.map PV.bool).take ((a + 1 : Nat) : Int).toNat).drop (a : Int).toNat = (sub os a 1).map PV.bool := by
      rw [sub_map PV.bool (a := a) (b := a + 1) (by simp) (by omega), show a + 1 - a = 1 by omega]
    cases hany : (sub os a 1).any id with
    | false =>
      rw [hany] at c1
      rw [if_neg (by simp)]
      have cr := (fnRootQ hT hm (k := 0) (ss := sub ss a 1) (by omega) (sub_len (by omega)) (fun s h => hs s (List.mem_of_mem_drop (List.mem_of_mem_take h)))).lent lnC
      have hys : ((ss.map slE).take ((a + 1 : Nat) : Int).toNat).drop (a : Int).toNat = (sub ss a 1).map slE := by
        rw [sub_map slE (a := a) (b := a + 1) (by simp) (by omega), show a + 1 - a = 1 by omega]
      generalize rootQ (digP T mode) 0 (sub ss a 1) = R at *
      refine FnL.of Tryd.func32 rfl rfl rfl rfl ?_
      repeat (first | refine Run.seq ?_ | refine Run.skip ?_ | refine Run.block ?_)
      refine Run.region ?_
      refine O.assign rfl rfl ?_
      refine O.nil ?_
      try refine Run.keep [0, 1, 2, 3, 4, 5, 6, 9, 10, 11, 12, 13, 14, 15, 38, 72] rfl rfl ?_
      repeat (first | refine Run.seq ?_ | refine Run.skip ?_)
      refine Run.block ?_
      repeat (first | refine Run.seq ?_ | refine Run.skip ?_ | refine Run.block ?_)
      refine Run.region ?_
      first | refine O.loadS hE T25 rfl rfl rfl (by rfl) rfl ?_ | refine O.loadE hE T25 rfl rfl (by rfl) rfl ?_ | refine O.load hE T25 rfl rfl rfl rfl ?_
      refine O.move rfl rfl ?_
      refine O.move rfl rfl ?_
      refine O.slice hE T25 rfl T4 rfl rfl newest_pv rfl rfl rfl (by omega) (by omega) (by show ((a + 1 : Nat) : Int) ≤ ((os.map PV.bool).length : Int); omega) hyo rfl ?_
      refine O.callE c1 rfl (by first | rfl | simp [closed, men3, mens2_app, mens2_ints, mens2, men2, men1, mens1_app, mens1_ints, mens1]) (by first | rfl | simp [d2, ds1_ints, ds1_app, ds1, d1, ds0_app, ds0_ints, ds0, d0]) rfl ?_
      refine O.un rfl rfl rfl rfl rfl ?_
      refine O.assign rfl rfl ?_
      refine O.nil ?_
      try refine Run.keep [0, 1, 2, 3, 4, 5, 6, 9, 10, 11, 12, 13, 14, 15, 38, 72] rfl rfl ?_
      repeat (first | refine Run.seq ?_ | refine Run.skip ?_)
      first | refine Run.condT rfl rfl ?_ | refine Run.condF rfl rfl ?_ | refine Run.condT rfl (by assumption) ?_ | refine Run.condF rfl (by assumption) ?_
      repeat (first | refine Run.seq ?_ | refine Run.skip ?_ | refine Run.block ?_)
      refine Run.draw mixed rfl ?_
      first | refine D.loadS hE T3 rfl rfl rfl (by rfl) rfl ?_ | refine D.loadE hE T3 rfl rfl (by rfl) rfl ?_ | refine D.load hE T3 rfl rfl rfl rfl ?_
      first | refine D.loadS hE T23 rfl rfl rfl (by rfl) rfl ?_ | refine D.loadE hE T23 rfl rfl (by rfl) rfl ?_ | refine D.load hE T23 rfl rfl rfl rfl ?_
      refine D.move rfl rfl ?_
      refine D.move rfl rfl ?_
      refine D.sliceP hE T23 rfl T41 rfl rfl rfl rfl (by omega) (by omega) (by omega) hys rfl ?_
      refine D.callE cr rfl (by first | rfl | simp [closed, men3, mens2_app, mens2_ints, mens2, men2, men1, mens1_app, mens1_ints, mens1]) (by first | rfl | simp [d2, ds1_ints, ds1_app, ds1, d1, ds0_app, ds0_ints, ds0, d0]) rfl ?_
      refine D.move rfl rfl ?_
      refine D.extract rfl rfl rfl ?_
      refine D.extract rfl rfl rfl ?_
      refine D.assign rfl rfl ?_
      refine D.assign rfl rfl ?_
      refine Dr.nil ?_
      refine ⟨rfl, ?_⟩
      try refine Run.keep [0, 1, 2, 3, 4, 5, 6, 9, 10, 11, 12, 13, 14, 15, 38, 72] rfl rfl ?_
      repeat (first | refine Run.seq ?_ | refine Run.skip ?_ | refine Run.block ?_)
      refine Run.region ?_
      refine O.field hE L29 rfl rfl rfl rfl ?_
      first | refine O.loadS hE T27 rfl rfl rfl (by rfl) rfl ?_ | refine O.loadE hE T27 rfl rfl (by rfl) rfl ?_ | refine O.load hE T27 rfl rfl rfl rfl ?_
      refine O.move rfl rfl ?_
      refine O.litV hE T27 rfl T33 rfl rfl rfl rfl rfl rfl rfl ?_
      refine O.appM bys (r := [R]) hE T27 rfl T33 rfl rfl rfl rfl rfl newest_pv rfl rfl rfl rfl (by simp; omega) (by simp [maxLen]; omega) rfl ?_
      refine O.field hE L29 rfl rfl rfl rfl ?_
      refine O.store hE T27 rfl rfl rfl rfl rfl rfl ?_
      refine O.nil ?_
      try refine Run.keep [0, 1, 2, 3, 4, 5, 6, 9, 10, 11, 12, 13, 14, 15, 38, 72] rfl rfl ?_
      repeat (first | refine Run.seq ?_ | refine Run.skip ?_ | refine Run.block ?_)
      refine Run.region ?_
      refine O.move rfl rfl ?_
      refine O.assign rfl rfl ?_
      refine O.nil ?_
      try refine Run.keep [0, 1, 2, 3, 4, 5, 6, 9, 10, 11, 12, 13, 14, 15, 38, 72] rfl rfl ?_
      rw [List.append_nil]
      refine Run.ret ?_
      repeat (first | refine thenR_ret ?_ | refine roundR_ret ?_ | refine blockR_ret ?_)
      exact Ends.of hE (.inr rfl) rfl rfl (SLe.drop (by repeat (first | exact TmIn.nil | refine TmIn.cons rfl ?_)) (by repeat (first | exact BxIn.nil | refine BxIn.cons rfl ?_)) rfl rfl)
    | true =>
      rw [hany] at c1
      rw [if_pos rfl]
      obtain ⟨s, hsa⟩ : ∃ s, ss[a]? = some s := ⟨_, List.getElem?_eq_getElem (by omega)⟩
      have hsub : (sub ss a 1).take 1 = [s] := by
        unfold sub
        rw [List.drop_eq_getElem_cons (by omega)]
        rw [List.getElem?_eq_getElem (by omega)] at hsa
        obtain rfl := Option.some.inj hsa
        rfl
      rw [hsub]
      have hsm := hs s (List.mem_of_getElem? hsa)
      obtain ⟨z1, z2, _⟩ := hsm
      have hat : (ss.map slE)[(a : Int).toNat]? = some (slE s) := by rw [Int.toNat_natCast, List.getElem?_map, hsa]; rfl
      have hsl : (s.salt.map (PV.int .u8)).length = s.salt.length := by simp
      have hdl : (s.data.map (PV.int .u8)).length = s.data.length := by simp
      refine FnL.of Tryd.func32 rfl rfl rfl rfl ?_
      repeat (first | refine Run.seq ?_ | refine Run.skip ?_ | refine Run.block ?_)
      refine Run.region ?_
      refine O.assign rfl rfl ?_
      refine O.nil ?_
      try refine Run.keep [0, 1, 2, 3, 4, 5, 6, 9, 10, 11, 12, 13, 14, 15, 38, 72] rfl rfl ?_
      repeat (first | refine Run.seq ?_ | refine Run.skip ?_)
      refine Run.block ?_
      repeat (first | refine Run.seq ?_ | refine Run.skip ?_ | refine Run.block ?_)
      refine Run.region ?_
      first | refine O.loadS hE T25 rfl rfl rfl (by rfl) rfl ?_ | refine O.loadE hE T25 rfl rfl (by rfl) rfl ?_ | refine O.load hE T25 rfl rfl rfl rfl ?_
      refine O.move rfl rfl ?_
      refine O.move rfl rfl ?_
      refine O.slice hE T25 rfl T4 rfl rfl newest_pv rfl rfl rfl (by omega) (by omega) (by show ((a + 1 : Nat) : Int) ≤ ((os.map PV.bool).length : Int); omega) hyo rfl ?_
      refine O.callE c1 rfl (by first | rfl | simp [closed, men3, mens2_app, mens2_ints, mens2, men2, men1, mens1_app, mens1_ints, mens1]) (by first | rfl | simp [d2, ds1_ints, ds1_app, ds1, d1, ds0_app, ds0_ints, ds0, d0]) rfl ?_
      refine O.un rfl rfl rfl rfl rfl ?_
      refine O.assign rfl rfl ?_
      refine O.nil ?_
      try refine Run.keep [0, 1, 2, 3, 4, 5, 6, 9, 10, 11, 12, 13, 14, 15, 38, 72] rfl rfl ?_
      repeat (first | refine Run.seq ?_ | refine Run.skip ?_)
      first | refine Run.condT rfl rfl ?_ | refine Run.condF rfl rfl ?_ | refine Run.condT rfl (by assumption) ?_ | refine Run.condF rfl (by assumption) ?_
      repeat (first | refine Run.seq ?_ | refine Run.skip ?_ | refine Run.block ?_)
      refine Run.region ?_
      refine O.move rfl rfl ?_
      refine O.move rfl rfl ?_
      first | refine O.ar rfl rfl rfl (by exact wrap_i64 (by omega) (by omega)) rfl ?_ | refine O.ar rfl rfl rfl rfl rfl ?_
      first | refine O.cmp rfl rfl rfl (by first | exact decide_eq_true (by omega) | exact decide_eq_false (by omega)) rfl ?_ | refine O.cmp rfl rfl rfl rfl rfl ?_
      refine O.assign rfl rfl ?_
      refine O.nil ?_
      try refine Run.keep [0, 1, 2, 3, 4, 5, 6, 9, 10, 11, 12, 13, 14, 15, 38, 72] rfl rfl ?_
      repeat (first | refine Run.seq ?_ | refine Run.skip ?_)
      first | refine Run.condT rfl rfl ?_ | refine Run.condF rfl rfl ?_ | refine Run.condT rfl (by assumption) ?_ | refine Run.condF rfl (by assumption) ?_
      repeat (first | refine Run.seq ?_ | refine Run.skip ?_ | refine Run.block ?_)
      refine Run.region ?_
      first | refine O.loadS hE T23 rfl rfl rfl (by rfl) rfl ?_ | refine O.loadE hE T23 rfl rfl (by rfl) rfl ?_ | refine O.load hE T23 rfl rfl rfl rfl ?_
      refine O.move rfl rfl ?_
      refine O.index hE T23 rfl T41 rfl rfl newest_pv rfl (by omega) hat rfl rfl rfl ?_
      refine O.load hE T41 rfl rfl rfl rfl ?_
      refine O.alloc hE 12 T41 rfl rfl rfl ?_
      refine O.store hE T41 rfl rfl rfl rfl rfl rfl ?_
      refine O.nil ?_
      try refine Run.keep [0, 1, 2, 3, 4, 5, 6, 9, 10, 11, 12, 13, 14, 15, 38, 72] rfl rfl ?_
      repeat (first | refine Run.seq ?_ | refine Run.skip ?_ | refine Run.block ?_)
      refine Run.draw mixed rfl ?_
      refine D.field hE L29 rfl rfl rfl rfl ?_
      first | refine D.loadS hE T23 rfl rfl rfl (by rfl) rfl ?_ | refine D.loadE hE T23 rfl rfl (by rfl) rfl ?_ | refine D.load hE T23 rfl rfl rfl rfl ?_
      refine D.field hE L41 rfl rfl rfl rfl ?_
      first | refine D.loadS hE T4 rfl rfl rfl (by rfl) rfl ?_ | refine D.loadE hE T4 rfl rfl (by rfl) rfl ?_ | refine D.load hE T4 rfl rfl rfl rfl ?_
      refine D.lit hE 51 [] T33 rfl T5 rfl rfl (xs := []) rfl BxIn.nil rfl rfl rfl rfl rfl ?_
      refine D.field hE L41 rfl rfl rfl rfl ?_
      first | refine D.loadS hE T33 rfl rfl rfl (by rfl) rfl ?_ | refine D.loadE hE T33 rfl rfl (by rfl) rfl ?_ | refine D.load hE T33 rfl rfl rfl rfl ?_
      refine D.appM (PV.int .u8) (q := []) (r := s.salt) hE T33 rfl T5 rfl rfl rfl rfl rfl newest_pv rfl rfl rfl rfl (by simp; omega) (by simp [maxLen]; omega) rfl ?_
      refine D.lit hE 55 [] T33 rfl T5 rfl rfl (xs := []) rfl BxIn.nil rfl rfl rfl rfl rfl ?_
      refine D.field hE L41 rfl rfl rfl rfl ?_
      first | refine D.loadS hE T33 rfl rfl rfl (by rfl) rfl ?_ | refine D.loadE hE T33 rfl rfl (by rfl) rfl ?_ | refine D.load hE T33 rfl rfl rfl rfl ?_
      refine D.appM (PV.int .u8) (q := []) (r := s.data) hE T33 rfl T5 rfl rfl rfl rfl rfl newest_pv rfl rfl rfl rfl (by simp; omega) (by simp [maxLen]; omega) rfl ?_
      refine D.build hE T41 L41 rfl rfl rfl ?_
      refine D.lit hE 60 [(51, .lst 5 1 (s.salt.map (PV.int .u8))), (55, .lst 5 1 (s.data.map (PV.int .u8)))] T23 rfl T41 rfl rfl (xs := [slE s]) (elems_slot (salt := s.salt) (data := s.data) rfl rfl rfl rfl rfl) (by repeat (first | exact BxIn.nil | refine BxIn.cons rfl ?_)) rfl rfl rfl rfl rfl ?_
      refine D.appM slE (r := [s]) hE T23 rfl T41 rfl rfl rfl rfl rfl (newest_gl rfl rfl) rfl rfl rfl rfl (by simp; omega) (by simp [maxLen]; omega) rfl ?_
      refine D.field hE L29 rfl rfl rfl rfl ?_
      refine D.store hE T23 rfl rfl rfl rfl rfl rfl ?_
      refine Dr.nil ?_
      refine ⟨rfl, ?_⟩
      try refine Run.keep [0, 1, 2, 3, 4, 5, 6, 9, 10, 11, 12, 13, 14, 15, 38, 72] rfl rfl ?_
      repeat (first | refine Run.seq ?_ | refine Run.skip ?_ | refine Run.block ?_)
      refine Run.region ?_
      refine O.assign rfl rfl ?_
      refine O.nil ?_
      try refine Run.keep [0, 1, 2, 3, 4, 5, 6, 9, 10, 11, 12, 13, 14, 15, 38, 72] rfl rfl ?_
      rw [List.append_nil]
      refine Run.ret ?_
      repeat (first | refine thenR_ret ?_ | refine roundR_ret ?_ | refine blockR_ret ?_)
      exact Ends.of hE (.inr rfl) rfl rfl (SLe.drop (by repeat (first | exact TmIn.nil | refine TmIn.cons rfl ?_)) (by repeat (first | exact BxIn.nil | refine BxIn.cons rfl ?_)) rfl rfl)
  | succ k ih =>
    intro a A B hk hab hA hB
    have hE := EnLOk g lnC
    rw [covP_succ]
    have hp2 : 2 ^ (k + 1) = 2 * 2 ^ k := by rw [Nat.pow_succ]; omega
    have hp16 : 2 ^ k ≤ 8 := Nat.pow_le_pow_right (n := 2) (j := 3) (by decide) (by omega)
    have hp1 : 1 ≤ 2 ^ k := Nat.pow_pos (by decide)
    have cr0 := fun (h : (sub ss a (2 ^ (k + 1))).length = 2 ^ (k + 1)) => (fnRootQ hT hm (k := k + 1) (ss := sub ss a (2 ^ (k + 1))) (by omega) h (fun s h => hs s (List.mem_of_mem_drop (List.mem_of_mem_take h)))).lent lnC
    have hl1 := fun X Y => (covP_len (D := digP T mode) k X Y)
    rw [hp2] at hab hA hB cr0 ⊢
    generalize 2 ^ k = p at *
    have hmo : (os.map PV.bool).length = os.length := by simp
    have hms : (ss.map slE).length = ss.length := by simp
    have c1 := (fnAny (g := g) (sub os a (2 * p)) (by rw [sub_len (by omega)]; omega)).lent lnC
    have hyo : ((os.map PV.bool).take ((a + 2 * p : Nat) : Int).toNat).drop (a : Int).toNat = (sub os a (2 * p)).map PV.bool := by
      rw [sub_map PV.bool (a := a) (b := a + 2 * p) (by simp) (by omega), show a + 2 * p - a = 2 * p by omega]
    cases hany : (sub os a (2 * p)).any id with
    | false =>
      rw [hany] at c1
      rw [if_neg (by simp)]
      have cr := cr0 (sub_len (by omega))
      have hys : ((ss.map slE).take ((a + 2 * p : Nat) : Int).toNat).drop (a : Int).toNat = (sub ss a (2 * p)).map slE := by
        rw [sub_map slE (a := a) (b := a + 2 * p) (by simp) (by omega), show a + 2 * p - a = 2 * p by omega]
      generalize rootQ (digP T mode) (k + 1) (sub ss a (2 * p)) = R at *
      refine FnL.of Tryd.func32 rfl rfl rfl rfl ?_
      repeat (first | refine Run.seq ?_ | refine Run.skip ?_ | refine Run.block ?_)
      refine Run.region ?_
      refine O.assign rfl rfl ?_
      refine O.nil ?_
      try refine Run.keep [0, 1, 2, 3, 4, 5, 6, 9, 10, 11, 12, 13, 14, 15, 38, 72] rfl rfl ?_
      repeat (first | refine Run.seq ?_ | refine Run.skip ?_)
      refine Run.block ?_
      repeat (first | refine Run.seq ?_ | refine Run.skip ?_ | refine Run.block ?_)
      refine Run.region ?_
      first | refine O.loadS hE T25 rfl rfl rfl (by rfl) rfl ?_ | refine O.loadE hE T25 rfl rfl (by rfl) rfl ?_ | refine O.load hE T25 rfl rfl rfl rfl ?_
      refine O.move rfl rfl ?_
      refine O.move rfl rfl ?_
      refine O.slice hE T25 rfl T4 rfl rfl newest_pv rfl rfl rfl (by omega) (by omega) (by show ((a + 2 * p : Nat) : Int) ≤ ((os.map PV.bool).length : Int); omega) hyo rfl ?_
      refine O.callE c1 rfl (by first | rfl | simp [closed, men3, mens2_app, mens2_ints, mens2, men2, men1, mens1_app, mens1_ints, mens1]) (by first | rfl | simp [d2, ds1_ints, ds1_app, ds1, d1, ds0_app, ds0_ints, ds0, d0]) rfl ?_
      refine O.un rfl rfl rfl rfl rfl ?_
      refine O.assign rfl rfl ?_
      refine O.nil ?_
      try refine Run.keep [0, 1, 2, 3, 4, 5, 6, 9, 10, 11, 12, 13, 14, 15, 38, 72] rfl rfl ?_
      repeat (first | refine Run.seq ?_ | refine Run.skip ?_)
      first | refine Run.condT rfl rfl ?_ | refine Run.condF rfl rfl ?_ | refine Run.condT rfl (by assumption) ?_ | refine Run.condF rfl (by assumption) ?_
      repeat (first | refine Run.seq ?_ | refine Run.skip ?_ | refine Run.block ?_)
      refine Run.draw mixed rfl ?_
      first | refine D.loadS hE T3 rfl rfl rfl (by rfl) rfl ?_ | refine D.loadE hE T3 rfl rfl (by rfl) rfl ?_ | refine D.load hE T3 rfl rfl rfl rfl ?_
      first | refine D.loadS hE T23 rfl rfl rfl (by rfl) rfl ?_ | refine D.loadE hE T23 rfl rfl (by rfl) rfl ?_ | refine D.load hE T23 rfl rfl rfl rfl ?_
      refine D.move rfl rfl ?_
      refine D.move rfl rfl ?_
      refine D.sliceP hE T23 rfl T41 rfl rfl rfl rfl (by omega) (by omega) (by omega) hys rfl ?_
      refine D.callE cr rfl (by first | rfl | simp [closed, men3, mens2_app, mens2_ints, mens2, men2, men1, mens1_app, mens1_ints, mens1]) (by first | rfl | simp [d2, ds1_ints, ds1_app, ds1, d1, ds0_app, ds0_ints, ds0, d0]) rfl ?_
      refine D.move rfl rfl ?_
      refine D.extract rfl rfl rfl ?_
      refine D.extract rfl rfl rfl ?_
      refine D.assign rfl rfl ?_
      refine D.assign rfl rfl ?_
      refine Dr.nil ?_
      refine ⟨rfl, ?_⟩
      try refine Run.keep [0, 1, 2, 3, 4, 5, 6, 9, 10, 11, 12, 13, 14, 15, 38, 72] rfl rfl ?_
      repeat (first | refine Run.seq ?_ | refine Run.skip ?_ | refine Run.block ?_)
      refine Run.region ?_
      refine O.field hE L29 rfl rfl rfl rfl ?_
      first | refine O.loadS hE T27 rfl rfl rfl (by rfl) rfl ?_ | refine O.loadE hE T27 rfl rfl (by rfl) rfl ?_ | refine O.load hE T27 rfl rfl rfl rfl ?_
      refine O.move rfl rfl ?_
      refine O.litV hE T27 rfl T33 rfl rfl rfl rfl rfl rfl rfl ?_
      refine O.appM bys (r := [R]) hE T27 rfl T33 rfl rfl rfl rfl rfl newest_pv rfl rfl rfl rfl (by simp; omega) (by simp [maxLen]; omega) rfl ?_
      refine O.field hE L29 rfl rfl rfl rfl ?_
      refine O.store hE T27 rfl rfl rfl rfl rfl rfl ?_
      refine O.nil ?_
      try refine Run.keep [0, 1, 2, 3, 4, 5, 6, 9, 10, 11, 12, 13, 14, 15, 38, 72] rfl rfl ?_
      repeat (first | refine Run.seq ?_ | refine Run.skip ?_ | refine Run.block ?_)
      refine Run.region ?_
      refine O.move rfl rfl ?_
      refine O.assign rfl rfl ?_
      refine O.nil ?_
      try refine Run.keep [0, 1, 2, 3, 4, 5, 6, 9, 10, 11, 12, 13, 14, 15, 38, 72] rfl rfl ?_
      rw [List.append_nil]
      refine Run.ret ?_
      repeat (first | refine thenR_ret ?_ | refine roundR_ret ?_ | refine blockR_ret ?_)
      exact Ends.of hE (.inr rfl) rfl rfl (SLe.drop (by repeat (first | exact TmIn.nil | refine TmIn.cons rfl ?_)) (by repeat (first | exact BxIn.nil | refine BxIn.cons rfl ?_)) rfl rfl)
    | true =>
      rw [hany] at c1
      rw [if_pos rfl]
      rw [sub_take (by omega), sub_take (by omega), sub_drop, sub_drop, show 2 * p - p = p by omega]
      have l1 := hl1 (sub ss a p) (sub os a p)
      have l2 := hl1 (sub ss (a + p) p) (sub os (a + p) p)
      have ci1 := ih a A B (by omega) (by omega) (by omega) (by omega)
      have ci2 := ih (a + p) (A ++ (covP (digP T mode) k (sub ss a p) (sub os a p)).1) (B ++ (covP (digP T mode) k (sub ss a p) (sub os a p)).2) (by omega) (by omega) (by rw [List.length_append]; omega) (by rw [List.length_append]; omega)
      generalize covP (digP T mode) k (sub ss a p) (sub os a p) = C1 at *
      generalize covP (digP T mode) k (sub ss (a + p) p) (sub os (a + p) p) = C2 at *
      rw [show a + p + p = a + 2 * p by omega] at ci2
      rw [List.append_assoc, List.append_assoc] at ci2
      have hq : IntKind.i64.wrap (((a : Int) + ((a + 2 * p : Nat) : Int)) / 2) = ((a + p : Nat) : Int) := by rw [wrap_i64 (by omega) (by omega)]; omega
      refine FnL.of Tryd.func32 rfl rfl rfl rfl ?_
      repeat (first | refine Run.seq ?_ | refine Run.skip ?_ | refine Run.block ?_)
      refine Run.region ?_
      refine O.assign rfl rfl ?_
      refine O.nil ?_
      try refine Run.keep [0, 1, 2, 3, 4, 5, 6, 9, 10, 11, 12, 13, 14, 15, 38, 72] rfl rfl ?_
      repeat (first | refine Run.seq ?_ | refine Run.skip ?_)
      refine Run.block ?_
      repeat (first | refine Run.seq ?_ | refine Run.skip ?_ | refine Run.block ?_)
      refine Run.region ?_
      first | refine O.loadS hE T25 rfl rfl rfl (by rfl) rfl ?_ | refine O.loadE hE T25 rfl rfl (by rfl) rfl ?_ | refine O.load hE T25 rfl rfl rfl rfl ?_
      refine O.move rfl rfl ?_
      refine O.move rfl rfl ?_
      refine O.slice hE T25 rfl T4 rfl rfl newest_pv rfl rfl rfl (by omega) (by omega) (by show ((a + 2 * p : Nat) : Int) ≤ ((os.map PV.bool).length : Int); omega) hyo rfl ?_
      refine O.callE c1 rfl (by first | rfl | simp [closed, men3, mens2_app, mens2_ints, mens2, men2, men1, mens1_app, mens1_ints, mens1]) (by first | rfl | simp [d2, ds1_ints, ds1_app, ds1, d1, ds0_app, ds0_ints, ds0, d0]) rfl ?_
      refine O.un rfl rfl rfl rfl rfl ?_
      refine O.assign rfl rfl ?_
      refine O.nil ?_
      try refine Run.keep [0, 1, 2, 3, 4, 5, 6, 9, 10, 11, 12, 13, 14, 15, 38, 72] rfl rfl ?_
      repeat (first | refine Run.seq ?_ | refine Run.skip ?_)
      first | refine Run.condT rfl rfl ?_ | refine Run.condF rfl rfl ?_ | refine Run.condT rfl (by assumption) ?_ | refine Run.condF rfl (by assumption) ?_
      repeat (first | refine Run.seq ?_ | refine Run.skip ?_ | refine Run.block ?_)
      refine Run.region ?_
      refine O.move rfl rfl ?_
      refine O.move rfl rfl ?_
      first | refine O.ar rfl rfl rfl (by exact wrap_i64 (by omega) (by omega)) rfl ?_ | refine O.ar rfl rfl rfl rfl rfl ?_
      first | refine O.cmp rfl rfl rfl (by first | exact decide_eq_true (by omega) | exact decide_eq_false (by omega)) rfl ?_ | refine O.cmp rfl rfl rfl rfl rfl ?_
      refine O.assign rfl rfl ?_
      refine O.nil ?_
      try refine Run.keep [0, 1, 2, 3, 4, 5, 6, 9, 10, 11, 12, 13, 14, 15, 38, 72] rfl rfl ?_
      repeat (first | refine Run.seq ?_ | refine Run.skip ?_)
      first | refine Run.condT rfl rfl ?_ | refine Run.condF rfl rfl ?_ | refine Run.condT rfl (by assumption) ?_ | refine Run.condF rfl (by assumption) ?_
      repeat (first | refine Run.seq ?_ | refine Run.skip ?_)
      repeat (first | refine Run.seq ?_ | refine Run.skip ?_ | refine Run.block ?_)
      refine Run.region ?_
      refine O.move rfl rfl ?_
      refine O.move rfl rfl ?_
      first | refine O.ar rfl rfl rfl (by exact wrap_i64 (by omega) (by omega)) rfl ?_ | refine O.ar rfl rfl rfl rfl rfl ?_
      refine O.quoE rfl rfl (by omega) (by omega) hq rfl ?_
      refine O.assign rfl rfl ?_
      refine O.nil ?_
      try refine Run.keep [0, 1, 2, 3, 4, 5, 6, 9, 10, 11, 12, 13, 14, 15, 38, 72] rfl rfl ?_
      repeat (first | refine Run.seq ?_ | refine Run.skip ?_ | refine Run.block ?_)
      refine Run.region ?_
      first | refine O.loadS hE T72 rfl rfl rfl (by rfl) rfl ?_ | refine O.loadE hE T72 rfl rfl (by rfl) rfl ?_ | refine O.load hE T72 rfl rfl rfl rfl ?_
      refine O.move rfl rfl ?_
      refine O.move rfl rfl ?_
      refine O.lend (ln := lnC) ci1 rfl rfl rfl (.inl rfl) (by repeat (first | exact BxIn.nil | refine BxIn.cons rfl ?_)) rfl rfl rfl rfl rfl rfl rfl rfl rfl rfl ?_
      refine O.assign rfl rfl ?_
      refine O.nil ?_
      try refine Run.keep [0, 1, 2, 3, 4, 5, 6, 9, 10, 11, 12, 13, 14, 15, 38, 72] rfl rfl ?_
      repeat (first | refine Run.seq ?_ | refine Run.skip ?_ | refine Run.block ?_)
      refine Run.region ?_
      refine O.move rfl rfl ?_
      first | refine O.cmp rfl rfl rfl (by first | exact decide_eq_true (by omega) | exact decide_eq_false (by omega)) rfl ?_ | refine O.cmp rfl rfl rfl rfl rfl ?_
      refine O.nil ?_
      try refine Run.keep [0, 1, 2, 3, 4, 5, 6, 9, 10, 11, 12, 13, 14, 15, 38, 72] rfl rfl ?_
      repeat (first | refine Run.seq ?_ | refine Run.skip ?_)
      first | refine Run.condT rfl rfl ?_ | refine Run.condF rfl rfl ?_ | refine Run.condT rfl (by assumption) ?_ | refine Run.condF rfl (by assumption) ?_
      repeat (first | refine Run.seq ?_ | refine Run.skip ?_ | refine Run.block ?_)
      refine Run.region ?_
      first | refine O.loadS hE T72 rfl rfl rfl (by rfl) rfl ?_ | refine O.loadE hE T72 rfl rfl (by rfl) rfl ?_ | refine O.load hE T72 rfl rfl rfl rfl ?_
      refine O.move rfl rfl ?_
      refine O.move rfl rfl ?_
      refine O.lend (ln := lnC) ci2 rfl rfl rfl (.inl rfl) (by repeat (first | exact BxIn.nil | refine BxIn.cons rfl ?_)) rfl rfl rfl rfl rfl rfl rfl rfl rfl rfl ?_
      refine O.assign rfl rfl ?_
      refine O.nil ?_
      try refine Run.keep [0, 1, 2, 3, 4, 5, 6, 9, 10, 11, 12, 13, 14, 15, 38, 72] rfl rfl ?_
      refine Run.ret ?_
      exact Ends.of hE (.inr rfl) rfl rfl (SLe.drop (by repeat (first | exact TmIn.nil | refine TmIn.cons rfl ?_)) (by repeat (first | exact BxIn.nil | refine BxIn.cons rfl ?_)) rfl rfl)
end Go.Proofs.YtokjeodlcilfpaaDoor.Vm
