/- Rules: a text appended to bytes; rules of plain regions once more where the order is drawn. Conditions: none. -/
import Derived.Test.YtdigejpgjnhclaaDoorPick
import Derived.Test.YtdigejpgjnhclaaDoorRowV
import Derived.Lib.AppendStr
namespace Go.Proofs.YtdigejpgjnhclaaDoor.Vm
open Go Go.RowKit
set_option linter.unusedVariables false
set_option linter.unusedSimpArgs false
theorem run_append3S {P : Program} (w : World) (base : Nat) (t u ty e : TypeId) (i : TypeInfo) (ht : P.underlying t = some (.slice e)) (hu : P.underlying u = some .string) (hi : P.info? e = some i) (hz : i.zero = some (.int .u8 0)) (hs1 : i.size = 1) (hby : i.bytes = 1)
    (v : Value) (n : Nat) (xs : List Value) (hown : w.ownsRow base e 1 v n xs) (s : ByteArray) (h63 : n + s.size ≤ maxLen) (hbytes : n + s.size ≤ 140737488355328) (hbase : base ≤ w.heap.size) :
    ∃ v' w', (Builtin.append_ #[t, u] ty #[v, .string s]).run P w = .ok v' w' ∧ w'.ownsRow base e 1 v' (n + s.size) (xs ++ Lib.strCells s) ∧ w.grownBy w' v.ownBlock ∧
      (v'.ownBlock = v.ownBlock ∨ ∃ k, v'.ownBlock = some k ∧ w.heap.size ≤ k ∧ ∀ j, j < w.heap.size → w'.heap[j]? = w.heap[j]?) ∧ (s.size = 0 → v' = v) := by
  have hown0 := hown
  obtain ⟨v', w', h2, h3, h4, h5⟩ := Lib.run_append_own_string (P := P) w base t u ty e i ht hu hi hz hs1 hby v n xs hown s h63 hbytes hbase
  rcases hown.2 with ⟨rfl, rfl⟩ | ⟨g, cap, cur, rfl, hbg, hg, hnc, hcm, hcs, htake⟩
  · by_cases hm : s.size = 0
    · have := h5.2 ⟨rfl, hm⟩
      subst this
      exact ⟨_, w', h2, h3, h4, .inl rfl, fun _ => rfl⟩
    · have hr := run_append_nil_string (P := P) w t u ty e i (.int .u8 0) ht hu hi hz s (by omega) (by omega) (by rw [hby]; omega)
      rw [hr] at h2
      injection h2 with e1 e2
      subst e1
      subst e2
      exact ⟨_, _, hr, h3, h4, .inr ⟨w.heap.size, rfl, Nat.le_refl _, fun j hj => heap_alloc_old w.drew _ hj⟩, fun e => absurd e hm⟩
  · have hcs' : cur.size = cap := by simpa using hcs
    by_cases hroom : n + s.size ≤ cap
    · have hr := Lib.run_append_room_string (P := P) w t u ty e i ht hu hi hs1 g n cap cur hg s hroom (by omega)
      rw [hr] at h2
      injection h2 with e1 e2
      subst e1
      subst e2
      exact ⟨_, _, hr, h3, h4, .inl rfl, fun e => by rw [e]; rfl⟩
    · have holds : ∀ (j : Nat) u, xs[j]? = some u → w.cell? ((⟨g, 0, none⟩ : Addr).add j) = some u := hown0.cells (g := g) rfl
      have hxl : xs.length = n := by simpa using hown0.1
      have hr := Lib.run_append_grow_string (P := P) w t u ty e i (.int .u8 0) ht hu hi hz ⟨g, 0, none⟩ n cap xs (by rw [hs1]; omega) holds s (by omega) (by simp only [maxLen] at h63; omega) (by rw [hby]; exact growslice_fits (by omega) (by omega))
      rw [hr] at h2
      injection h2 with e1 e2
      subst e1
      subst e2
      exact ⟨_, _, hr, h3, h4, .inr ⟨w.heap.size, rfl, Nat.le_refl _, fun j hj => heap_alloc_old w.drew _ hj⟩, fun e => by omega⟩
section
variable {P : Program} {g : Gb} {s s1 s' : St} {cx : Cx} {a : Act} {w : World} {G : Gh}
/-- A text's bytes appended to a slice of bytes. -/
theorem OpOk.appStr {d : Tmp} {t u e : TypeId} {y x : Operand} {ty : TypeId} {pos : String} {after : Array Edge} {gd : Option (Nat × Bool)} {i ie : TI} {b n sz : Nat} {xs zs : List PV} {q : ByteArray} {iu : TI}
    (ht : tiOf P t = some i) (hk : i.desc = .slc e) (he : tiOf P e = some ie) (hy : s.ev g y = .gl b n) (hb : look s.bx b = some (.lst e sz xs)) (hn : n = xs.length) (hu0 : tiOf P u = some iu) (hku : iu.desc = .strg) (hx : s.ev g x = .pv (.str q)) (hi1 : ie.size = 1) (hb0 : ie.bytes = 1) (hzz : (P.info? e).bind (·.zero) = some (.int .u8 0)) (hsz : sz = ie.size) (hzl : ie.zero.length = ie.size) (hpos : 0 < ie.size)
    (hb1 : (xs.length + (byts q).length) * ie.bytes ≤ 140737488355328) (hb2 : xs.length + (byts q).length ≤ maxLen) (hzs : xs ++ byts q = zs) (hd : d < s.n) :
    OpOk P g ⟨some d, .call { callee := .builtin .append, args := #[y, x], argTypes := #[t, u] }, ty, pos, after, gd⟩ s ((s.box b (.lst e sz zs)).put d (.gl b zs.length)) := by
  intro cx a w G hP hg hs K Q hK
  subst hzs
  obtain ⟨ys, hys0⟩ : ∃ ys, byts q = ys := ⟨_, rfl⟩
  rw [hys0] at hb1 hb2 hK
  have hyl : ys.length = q.size := by rw [← hys0]; unfold byts; rw [List.length_map, Array.length_toList]; rfl
  subst hn
  subst hsz
  obtain ⟨inf, z0, dd, i1, i2, i3, i4, i5, i6, i7⟩ := tiOf_ok he
  obtain ⟨hh, us, g1, g2, g3, g4, g5, g6⟩ := hs.rows hb
  have hy' := hs.ev hg y
  rw [hy] at hy'
  have hyv : a.eval y = hh := by
    generalize a.eval y = v at hy'
    cases hy' with
    | gl _ _ _ sz' xs' h' hb' hn' hp' hv' =>
      rw [g1] at hb'
      obtain ⟨rfl, h3⟩ := Prod.mk.inj (Option.some.inj hb')
      obtain ⟨rfl, rfl⟩ := Prod.mk.inj h3
      exact hv' rfl
  have hxe : a.eval x = .string q := by
    have h := hs.ev hg x
    rw [hx] at h
    exact h.str
  obtain ⟨news, hnews⟩ : ∃ news, Lib.strCells q = news := ⟨_, rfl⟩
  have q3 : RowsOf G.dat ie.size ys news := by
    subst hys0
    subst hnews
    rw [hi1]
    refine ⟨by rw [Lib.strCells_length, hyl, Nat.mul_one], fun e he => ?_, fun e he y hy => ?_, fun i j e y v he hy hv => ?_⟩
    · obtain ⟨c, _, rfl⟩ := List.mem_map.1 he; rfl
    · obtain ⟨c, _, rfl⟩ := List.mem_map.1 he
      simp [PV.cells] at hy
      subst hy; rfl
    · unfold byts at he
      rw [List.getElem?_map, Option.map_eq_some_iff] at he
      obtain ⟨c, hc, rfl⟩ := he
      cases j with
      | zero =>
        simp [PV.cells] at hy
        subst hy
        unfold Lib.strCells at hv
        rw [Nat.mul_one, Nat.add_zero, List.getElem?_map, hc] at hv
        obtain rfl := Option.some.inj hv
        exact .int _ _
      | succ j => simp [PV.cells] at hy
  have hu := tiOf_slc ht hk
  have hcells : z0.cells.size = inf.size := by
    have := (pvOfs_ok (G := G) _ _ i7).1
    rw [Array.length_toList] at this
    rw [this, hzl, i4]
  have hown0 := hs.own_lst g1
  have key : ∃ v' w', (Builtin.append_ #[t, u] ty #[hh, .string q]).run P w = .ok v' w' ∧ cx.owns w' e ie.size v' (xs.length + ys.length) (us ++ news) ∧ w.grownBy w' hh.ownBlock ∧
      (v'.ownBlock = hh.ownBlock ∨ ∃ k, v'.ownBlock = some k ∧ w.heap.size ≤ k ∧ ∀ j, j < w.heap.size → w'.heap[j]? = w.heap[j]?) ∧ (ys = [] → v' = hh) := by
    have hzi : inf.zero = some (.int .u8 0) := by
      rw [i1] at hzz
      exact hzz
    obtain ⟨v', w', r1, r2, r3, r4, r5⟩ := run_append3S (P := P) w 0 t u ty e inf hu (tiOf_strg hu0 hku) i1 hzi (by rw [i4, hi1]) (by rw [i5, hb0]) hh xs.length us (by rw [← hi1]; exact g3.1) q (by rw [← hyl]; exact hb2) (by have := hb1; rw [hb0, Nat.mul_one, hyl] at this; exact this) (Nat.zero_le _)
    rw [hnews, ← hyl, ← hi1] at r2
    exact ⟨v', w', r1, ⟨r2, fun k hk => by
      rcases r4 with e1 | ⟨k', e1, e2, _⟩
      · exact g3.2 k (e1 ▸ hk)
      · rw [hk] at e1; obtain rfl := Option.some.inj e1; exact .inl (Nat.le_trans hs.basele e2)⟩, r3, r4, fun hys => r5 (by rw [← hyl, hys]; rfl)⟩
  obtain ⟨v', w', r1, r2, r3, r4, r5⟩ := key
  have hsame : ∀ k, k < w.heap.size → G.own b ≠ some k → w'.heap[k]? = w.heap[k]? := fun k hk hne => r3.block k hk (fun e => hne (by rw [hown0]; exact e.symm))
  have holdc : ∀ k o v, G.own b = some k → G.dat k o = some v → w'.cell? ⟨k, o, none⟩ = some v := by
    intro k o v hk hv
    rw [hown0] at hk
    have ho : o < xs.length * ie.size := by
      cases Nat.lt_or_ge o (xs.length * ie.size) with
      | inl h => exact h
      | inr h => rw [g6 k hk o h] at hv; cases hv
    have hc1 := hs.dat k o v hv
    have hc2 := g3.1.cells hk o (us[o]'(by rw [g4.len]; exact ho)) (by simp [g4.len, ho])
    rw [add_plain0] at hc2
    simp only [Nat.zero_add] at hc2
    rw [hc1] at hc2
    obtain rfl := Option.some.inj hc2
    rcases r4 with e1 | ⟨k', e1, e2⟩
    · have := r2.1.cells (e1.trans hk) o (us[o]'(by rw [g4.len]; exact ho)) (by rw [List.getElem?_append_left (by rw [g4.len]; exact ho)]; simp [g4.len, ho])
      rw [add_plain0] at this
      simpa using this
    · rw [← hc1]
      exact World.cell?_of_block (w := w) (e2.2 k (g3.1.lt k hk).2)
  obtain ⟨G', k1, k2, k3, k4⟩ := hs.growLst (w' := w') (b := b) (e := e) (sz := ie.size) (xs := xs ++ ys) (hh := v') (us := us ++ news) g2 (hs.lst_blk hb) (by rw [List.length_append]; exact r2) (g4.append q3)
    (hs.bel.grown r3 hs.basele (fun k hk => g3.2 k hk)) r3.size hsame holdc
    (by
      rcases r4 with e1 | ⟨k', e1, e2, _⟩
      · exact .inl (e1.trans hown0.symm)
      · exact .inr ⟨k', e1, e2⟩)
    (fun k _ hk o ho => g6 k (by rw [hown0] at hk; exact hk) o (by rw [List.length_append, Nat.add_mul] at ho; omega))
    (fun sz0 xs0 h0 hq => by
      rw [g1] at hq
      obtain ⟨rfl, h3⟩ := Prod.mk.inj (Option.some.inj hq)
      obtain ⟨rfl, rfl⟩ := Prod.mk.inj h3
      exact ⟨ys, rfl, rfl, r5⟩)
  have hrun : (execOp a.eval ⟨some d, .call { callee := .builtin .append, args := #[y, x], argTypes := #[t, u] }, ty, pos, after, gd⟩).run P w = .ok (.value v') w' := by
    simp only [execOp, resolve, invoke, builtin, Sem.run_bind, Sem.run_pure, Result.andThen_ok, List.map_toArray, List.map_cons, List.map_nil, hyv, hxe]
    obtain ⟨_, _, r1', _⟩ : ∃ (_ : Unit) (_ : Unit), (Builtin.append_ #[t, u] ty #[hh, .string q]).run P w = .ok v' w' ∧ True := ⟨(), (), r1, trivial⟩
    rw [r1']
    rfl
  unfold Oper.wp
  rw [hrun]
  refine hK _ _ G' (k4.put hd (.gl b _ v' ie.size (xs ++ ys) v' k2 (Nat.le_refl _) ?_ (fun _ => rfl)))
  rw [List.take_length]
  exact k3
end
section
variable {E : Env} {n : Nat} {tm : List (Nat × AV)} {bx : List (Nat × Box)} {ops : Array Oper} {l : List Oper} {d : Tmp} {ty : TypeId} {pos : String} {after : Array Edge}
theorem O.appStr {Θ : St → Prop} {t u e : TypeId} {y x : Operand} {i ie iu : TI} {b m sz : Nat} {xs zs : List PV} {q : ByteArray} (hE : E.Ok) (ht : E.T t = some i) (hk : i.desc = .slc e) (he : E.T e = some ie) (hu : E.T u = some iu) (hku : iu.desc = .strg) (hy : evO E tm y = some (.gl b m)) (hb : look bx b = some (.lst e sz xs)) (hm : m = xs.length) (hx : evO E tm x = some (.pv (.str q))) (hsz : sz = ie.size) (hi1 : ie.size = 1) (hb0 : ie.bytes = 1) (hzz : (E.P.info? e).bind (·.zero) = some (.int .u8 0))
    (hz : Nat.beq ie.zero.length ie.size = true) (hpos : Nat.blt 0 ie.size = true) (hb1 : (xs.length + (byts q).length) * ie.bytes ≤ 140737488355328) (hb2 : xs.length + (byts q).length ≤ maxLen) (hzs : xs ++ byts q = zs) (hd : Nat.blt d n = true) (h : Ops E.P E.g ops l ⟨n, (d, .gl b zs.length) :: tm, (b, .lst e sz zs) :: bx⟩ Θ) :
    Ops E.P E.g ops (⟨some d, .call { callee := .builtin .append, args := #[y, x], argTypes := #[t, u] }, ty, pos, after, none⟩ :: l) ⟨n, tm, bx⟩ Θ :=
  Ops.op rfl (OpOk.appStr (hE.t _ _ ht) hk (hE.t _ _ he) (evO_ok hy) hb hm (hE.t _ _ hu) hku (evO_ok hx) hi1 hb0 hzz hsz (Nat.eq_of_beq_eq_true hz) (Nat.le_of_ble_eq_true hpos) hb1 hb2 hzs (Vm.blt hd)) h
theorem D.appStr {Θ : List Rec → St → Prop} {t u e : TypeId} {y x : Operand} {i ie iu : TI} {b m sz : Nat} {xs zs : List PV} {q : ByteArray} (hE : E.Ok) (ht : E.T t = some i) (hk : i.desc = .slc e) (he : E.T e = some ie) (hu : E.T u = some iu) (hku : iu.desc = .strg) (hy : evO E tm y = some (.gl b m)) (hb : look bx b = some (.lst e sz xs)) (hm : m = xs.length) (hx : evO E tm x = some (.pv (.str q))) (hsz : sz = ie.size) (hi1 : ie.size = 1) (hb0 : ie.bytes = 1) (hzz : (E.P.info? e).bind (·.zero) = some (.int .u8 0))
    (hz : Nat.beq ie.zero.length ie.size = true) (hpos : Nat.blt 0 ie.size = true) (hb1 : (xs.length + (byts q).length) * ie.bytes ≤ 140737488355328) (hb2 : xs.length + (byts q).length ≤ maxLen) (hzs : xs ++ byts q = zs) (hd : Nat.blt d n = true)
    (h : Dr E.P E.g ops l ⟨n, (d, .gl b zs.length) :: tm, (b, .lst e sz zs) :: bx⟩ (fun rs => Θ (⟨rtOf y (.gl b m) ++ rtOf x (.pv (.str q)), [(b, .lst e sz xs)], [], some d, .gl b zs.length, [(b, .lst e sz zs)]⟩ :: rs))) :
    Dr E.P E.g ops (⟨some d, .call { callee := .builtin .append, args := #[y, x], argTypes := #[t, u] }, ty, pos, after, none⟩ :: l) ⟨n, tm, bx⟩ Θ := by
  refine Dr.cons (r := ⟨rtOf y (.gl b m) ++ rtOf x (.pv (.str q)), [(b, .lst e sz xs)], [], some d, .gl b zs.length, [(b, .lst e sz zs)]⟩) (.plain rfl rfl fun s hs => ?_) (met_mk (fun w hw => ?_) (fun p hp => ?_) none_new hd) h
  · exact OpOk.appStr (s := s) (hE.t _ _ ht) hk (hE.t _ _ he) (evO_ok (n := s.n) (bx := s.bx) (rt_ev hy (fun p hp => hs.t p (mem_l hp)))) (hs.b (b, .lst e sz xs) (by simp)) hm (hE.t _ _ hu) hku (evO_ok (n := s.n) (bx := s.bx) (rt_ev hx (fun p hp => hs.t p (mem_r hp)))) hi1 hb0 hzz hsz (Nat.eq_of_beq_eq_true hz) (Nat.le_of_ble_eq_true hpos) hb1 hb2 hzs (hs.d d rfl)
  · rcases List.mem_append.1 hw with hw | hw
    · exact rt_now hy w hw
    · exact rt_now hx w hw
  · rw [List.mem_singleton.1 hp]
    exact hb
theorem D.sliceS {Θ : List Rec → St → Prop} {t : TypeId} {y : Operand} {lo hi : Option Operand} {i : TI} {s s' : ByteArray} {a b : Int} (hE : E.Ok) (ht : E.T t = some i) (hk : i.desc = .strg) (hy : evO E tm y = some (.pv (.str s))) (hlo : bndO E tm 0 lo = some a) (hhi : bndO E tm s.size hi = some b)
    (h0 : 0 ≤ a) (h1 : a ≤ b) (h2 : b ≤ s.size) (hys : s.extract a.toNat b.toNat = s') (hd : Nat.blt d n = true)
    (h : Dr E.P E.g ops l ⟨n, (d, .pv (.str s')) :: tm, bx⟩ (fun rs => Θ (⟨rtsOf E tm (y :: (lo.toList ++ hi.toList)), [], [], some d, .pv (.str s'), []⟩ :: rs))) : Dr E.P E.g ops (⟨some d, .slice t y lo hi none, ty, pos, after, none⟩ :: l) ⟨n, tm, bx⟩ Θ :=
  D.of (rt := rtsOf E tm (y :: (lo.toList ++ hi.toList))) (rb := []) (rts_now _) none_met hd (fun s2 hs _ hd' => OpOk.sliceStr (s := s2) (hE.t _ _ ht) hk (evO_ok (n := s2.n) (bx := s2.bx) (rts_ev (by simp) hy hs)) (bndO_ok (n := s2.n) (bx := s2.bx) (bnd_rts hlo (fun z hz => by subst hz; simp) hs)) (bndO_ok (n := s2.n) (bx := s2.bx) (bnd_rts hhi (fun z hz => by subst hz; simp) hs)) h0 h1 h2 hys (fun t ht => by obtain rfl := Option.some.inj ht; exact hd')) h
theorem D.minI {Θ : List Rec → St → Prop} {x y : Operand} {ts : Array TypeId} {k k' : IntKind} {m j r : Int} (hx : evO E tm x = some (.pv (.int k m))) (hy : evO E tm y = some (.pv (.int k' j))) (hr : (if j < m then j else m) = r) (hd : Nat.blt d n = true)
    (h : Dr E.P E.g ops l ⟨n, (d, .pv (.int k r)) :: tm, bx⟩ (fun rs => Θ (⟨rtOf x (.pv (.int k m)) ++ rtOf y (.pv (.int k' j)), [], [], some d, .pv (.int k r), []⟩ :: rs))) :
    Dr E.P E.g ops (⟨some d, .call { callee := .builtin .min, args := #[x, y], argTypes := ts }, ty, pos, after, none⟩ :: l) ⟨n, tm, bx⟩ Θ := by
  subst hr
  refine D.of (rt := rtOf x (.pv (.int k m)) ++ rtOf y (.pv (.int k' j))) (rb := []) (fun w hw => (List.mem_append.1 hw).elim (rt_now hx w) (rt_now hy w)) none_met hd (fun s hs _ hd' => ?_) h
  have ex := rt_ev hx (fun p hp => hs p (mem_l hp))
  have ey := rt_ev hy (fun p hp => hs p (mem_r hp))
  obtain ⟨e1, e2⟩ := flatsO_ok (E := E) (n := s.n) (tm := s.tm) (bx := s.bx) [x, y] (by simp [flatsO, ex, ey, AV.flat?, PV.val?])
  refine OpOk.now (s := s) (v := .int k (if j < m then j else m)) (by intros; intro h; cases h) e1 ?_ rfl (fun t ht => by obtain rfl := Option.some.inj ht; exact hd')
  have h2 : ∀ (ρ : Operand → Value), ρ x = .int k m → ρ y = .int k' j → Vm.now E.P (execOp ρ ⟨some d, .call { callee := .builtin .min, args := #[x, y], argTypes := ts }, ty, pos, after, none⟩) = some (.value (.int k (if j < m then j else m))) := fun ρ h1 h2 => now_call2 h1 h2 (fun _ => rfl)
  refine h2 _ ?_ ?_
  · rw [e2 x (by simp)]; simp [flO, ex, AV.flat?, PV.val?]
  · rw [e2 y (by simp)]; simp [flO, ey, AV.flat?, PV.val?]
theorem AVle.boxes {s s' : St} (hb : ∀ x q, s.lstOf x = some q → s'.lstOf x = some q) {x y : AV} (h : AVle s x y) : AVle s' x y := by
  induction h with
  | refl x => exact .refl x
  | any x => exact .any x
  | lst x sz xs h => exact .lst x sz xs (hb _ _ h)
  | nil sz => exact .nil sz
  | agg xs ys hl _ ih => exact .agg xs ys hl ih
  | tup xs ys hl _ ih => exact .tup xs ys hl ih
theorem AVles.boxes {s s' : St} (hb : ∀ x q, s.lstOf x = some q → s'.lstOf x = some q) {xs ys : List AV} (h : AVles s xs ys) : AVles s' xs ys := by
  induction h with
  | nil => exact .nil
  | cons h t ih => exact .cons (h.boxes hb) ih
/-- A call whose arguments are lists that these boxes hold, in a region whose order is drawn. -/
theorem D.callF {Θ : List Rec → St → Prop} {f : FuncId} {xs : Array Operand} {ts : Array TypeId} {as0 args : List AV} {r : AV} (rb : List (Nat × Box)) (hc : FnC E f args r []) (hargs : evsO E tm xs.toList = some as0) (hle : AVles ⟨0, [], rb⟩ as0 args) (hrb : BxIn bx rb) (hcl : closed args = true) (hdr : d2 r = true) (hd : Nat.blt d n = true)
    (h : Dr E.P E.g ops l ⟨n, (d, r) :: tm, bx⟩ (fun rs => Θ (⟨rtsOf E tm xs.toList, rb, [], some d, r, []⟩ :: rs))) :
    Dr E.P E.g ops (⟨some d, .call { callee := .value (.func f), args := xs, argTypes := ts }, ty, pos, after, none⟩ :: l) ⟨n, tm, bx⟩ Θ := by
  obtain ⟨fn, h1, h2, h3⟩ := hc.fn
  have hall : ∀ (l : List (Nat × Box)), BxIn bx l → ∀ p ∈ l, look bx p.1 = some p.2 := by
    intro l hl
    induction hl with
    | nil => intro p hp; simp at hp
    | cons h r ih =>
      intro p hp
      cases hp with
      | head => exact h
      | tail _ hp => exact ih p hp
  refine Dr.cons (r := ⟨rtsOf E tm xs.toList, rb, [], some d, r, []⟩) (.plain rfl rfl fun s hs => ?_) (met_mk (rts_now _) (hall rb hrb) none_new hd) h
  have := OpOk.call (s := s) (P := E.P) (g := E.g) (d := d) (xs := xs) (ts := ts) (ty := ty) (pos := pos) (after := after) (gd := none) 0 hc.ok h1 h2 h3 (by
    rw [evsO_rts _ _ hargs s hs.t]
    refine hle.boxes fun x q hq => ?_
    cases x with
    | pv p => cases p <;> first | exact hq | (simp [St.lstOf] at hq)
    | gl b m =>
      simp only [St.lstOf] at hq ⊢
      cases hl : look rb b with
      | none => rw [hl] at hq; cases hq
      | some B =>
        rw [hl] at hq
        rw [hs.b (b, B) (look_in hl)]
        exact hq
    | _ => simp [St.lstOf] at hq) hcl rfl rfl hdr rfl (hs.d d rfl)
  rw [sh3_zero] at this
  exact this
theorem rts_tail {x : Operand} {xs : List Operand} {p : Nat × AV} (hp : p ∈ rtsOf E tm xs) : p ∈ rtsOf E tm (x :: xs) := by
  cases x with
  | tmp t =>
    simp only [rtsOf]
    split
    · exact List.mem_cons_of_mem _ hp
    · exact hp
  | const v => exact hp
  | global k => exact hp
  | func f => exact hp
theorem fillO_mono {place : Nat → Option (Nat × Nat)} {s : St} : ∀ (ps : List (Nat × Operand)) (cells r : List AV), fillO E place tm cells ps = some r → (∀ p ∈ rtsOf E tm (ps.map (·.2)), look s.tm p.1 = some p.2) → fillO E place s.tm cells ps = some r
  | [], cells, r, h, _ => h
  | (i, x) :: rest, cells, r, h, hs => by
    simp only [fillO] at h ⊢
    split at h
    · rename_i off size ys h1 h2
      split at h
      · rename_i c h3 h4
        rw [Option.bind_eq_some_iff] at h2
        obtain ⟨y, hy, h2⟩ := h2
        have e1 : evO E s.tm x = some y := by
          cases x with
          | tmp t => exact hs (t, y) (by simp only [List.map_cons, rtsOf]; rw [show look tm t = some y from hy]; simp)
          | const v => exact hy
          | global k => exact hy
          | func f => exact hy
        have e2 := fillO_mono (s := s) rest c r h (fun p hp => hs p (by rw [List.map_cons]; exact rts_tail hp))
        rw [h1, e1]
        simp only [Option.bind_some, h2, h3, h4]
        exact e2
      · cases h
    · cases h
theorem D.build {Θ : List Rec → St → Prop} {t : TypeId} {parts : Array (Nat × Operand)} {i : TI} {ls : List (Nat × Nat)} {zs cs : List AV} (hE : E.Ok) (ht : E.T t = some i) (hl : E.L t = some ls) (hz : pvsO i.zero = some zs) (hf : fillO E (fun j => ls[j]?) tm zs parts.toList = some cs) (hd : Nat.blt d n = true)
    (h : Dr E.P E.g ops l ⟨n, (d, .agg cs) :: tm, bx⟩ (fun rs => Θ (⟨rtsOf E tm (parts.toList.map (·.2)), [], [], some d, .agg cs, []⟩ :: rs))) : Dr E.P E.g ops (⟨some d, .build t parts, ty, pos, after, none⟩ :: l) ⟨n, tm, bx⟩ Θ :=
  D.of (rt := rtsOf E tm (parts.toList.map (·.2))) (rb := []) (rts_now _) none_met hd (fun s hs _ hd' => OpOk.build (s := s) (hE.t _ _ ht) (hE.l _ _ hl) (by rw [← pvsO_ok _ _ hz]; exact fillO_ok (n := s.n) (tm := s.tm) (bx := s.bx) _ _ _ (fillO_mono _ _ _ hf hs)) (fun t ht => by obtain rfl := Option.some.inj ht; exact hd')) h
theorem O.shrQ {Θ : St → Prop} {t t' : TypeId} {y z : Operand} {k k' : IntKind} {m j q : Int} (hy : evO E tm y = some (.pv (.int k m))) (hz : evO E tm z = some (.pv (.int k' j))) (hj : 0 ≤ j) (hq : m.fdiv (2 ^ (Min.min j.toNat k.bits)) = q) (hd : Nat.blt d n = true) (h : Ops E.P E.g ops l ⟨n, (d, .pv (.int k q)) :: tm, bx⟩ Θ) :
    Ops E.P E.g ops (⟨some d, .binOp .shr t y z t', ty, pos, after, none⟩ :: l) ⟨n, tm, bx⟩ Θ := by
  subst hq
  exact O.shr hy hz hj hd h
theorem O.shlQ {Θ : St → Prop} {t t' : TypeId} {y z : Operand} {k k' : IntKind} {m j q : Int} (hy : evO E tm y = some (.pv (.int k m))) (hz : evO E tm z = some (.pv (.int k' j))) (hj : 0 ≤ j) (hq : k.wrap (m * 2 ^ (Min.min j.toNat k.bits)) = q) (hd : Nat.blt d n = true) (h : Ops E.P E.g ops l ⟨n, (d, .pv (.int k q)) :: tm, bx⟩ Θ) :
    Ops E.P E.g ops (⟨some d, .binOp .shl t y z t', ty, pos, after, none⟩ :: l) ⟨n, tm, bx⟩ Θ := by
  subst hq
  exact O.shl hy hz hj hd h
theorem O.convQ {Θ : St → Prop} {sr t : TypeId} {y : Operand} {k k' : IntKind} {m q : Int} {i is : TI} (hE : E.Ok) (hs0 : E.T sr = some is) (ht : E.T t = some i) (hk : i.desc = .int k') (hy : evO E tm y = some (.pv (.int k m))) (hq : k'.wrap m = q) (hd : Nat.blt d n = true)
    (h : Ops E.P E.g ops l ⟨n, (d, .pv (.int k' q)) :: tm, bx⟩ Θ) : Ops E.P E.g ops (⟨some d, .convert sr t y, ty, pos, after, none⟩ :: l) ⟨n, tm, bx⟩ Θ := by
  subst hq
  exact O.conv hE hs0 ht hk hy hd h
theorem D.convQ {Θ : List Rec → St → Prop} {sr t : TypeId} {y : Operand} {k k' : IntKind} {m q : Int} {i is : TI} (hE : E.Ok) (hs0 : E.T sr = some is) (ht : E.T t = some i) (hk : i.desc = .int k') (hy : evO E tm y = some (.pv (.int k m))) (hq : k'.wrap m = q) (hd : Nat.blt d n = true)
    (h : Dr E.P E.g ops l ⟨n, (d, .pv (.int k' q)) :: tm, bx⟩ (fun rs => Θ (⟨rtOf y (.pv (.int k m)), [], [], some d, .pv (.int k' q), []⟩ :: rs))) : Dr E.P E.g ops (⟨some d, .convert sr t y, ty, pos, after, none⟩ :: l) ⟨n, tm, bx⟩ Θ := by
  subst hq
  exact D.conv hE hs0 ht hk hy hd h
theorem D.shlQ {Θ : List Rec → St → Prop} {t t' : TypeId} {y z : Operand} {k k' : IntKind} {m j q : Int} (hy : evO E tm y = some (.pv (.int k m))) (hz : evO E tm z = some (.pv (.int k' j))) (hj : 0 ≤ j) (hq : k.wrap (m * 2 ^ (Min.min j.toNat k.bits)) = q) (hd : Nat.blt d n = true) (h : Dr E.P E.g ops l ⟨n, (d, .pv (.int k q)) :: tm, bx⟩ (fun rs => Θ (⟨rtOf y (.pv (.int k m)) ++ rtOf z (.pv (.int k' j)), [], [], some d, .pv (.int k q), []⟩ :: rs))) :
    Dr E.P E.g ops (⟨some d, .binOp .shl t y z t', ty, pos, after, none⟩ :: l) ⟨n, tm, bx⟩ Θ := by
  subst hq
  exact D.shl hy hz hj hd h
theorem D.lenLstQ {Θ : List Rec → St → Prop} {t e : TypeId} {y : Operand} {i : TI} {sz : Nat} {xs : List PV} {m : Int} (hE : E.Ok) (ht : E.T t = some i) (hk : i.desc = .slc e) (hy : evO E tm y = some (.pv (.lst sz xs))) (hm : (xs.length : Int) = m) (hd : Nat.blt d n = true)
    (h : Dr E.P E.g ops l ⟨n, (d, .pv (.int .i64 m)) :: tm, bx⟩ (fun rs => Θ (⟨rtOf y (.pv (.lst sz xs)), rbOf bx (.pv (.lst sz xs)), [], some d, .pv (.int .i64 m), []⟩ :: rs))) : Dr E.P E.g ops (⟨some d, .call { callee := .builtin .len, args := #[y], argTypes := #[t] }, ty, pos, after, none⟩ :: l) ⟨n, tm, bx⟩ Θ := by
  subst hm
  exact D.lenLst hE ht hk hy rfl trivial hd h
end
theorem or_i64 {x c : Int} (hx : 0 ≤ x ∧ x < 16777216) (hc : 0 ≤ c ∧ c < 256) : bitI .or .i64 (x * 256) c = some (x * 256 + c) := by
  obtain ⟨x, rfl⟩ := Int.eq_ofNat_of_zero_le hx.1
  obtain ⟨c, rfl⟩ := Int.eq_ofNat_of_zero_le hc.1
  have h0 : bitI .or .i64 ((x : Int) * 256) (c : Int) = some (IntKind.i64.wrap ((BitVec.ofInt 64 ((x : Int) * 256) ||| BitVec.ofInt 64 (c : Int)).toNat : Int)) := rfl
  have e1 : BitVec.ofInt 64 ((x : Int) * 256) = BitVec.ofNat 64 (x * 256) := by
    rw [show ((x : Int) * 256) = ((x * 256 : Nat) : Int) by omega]; rfl
  have e2 : BitVec.ofInt 64 (c : Int) = BitVec.ofNat 64 c := rfl
  have e := Nat.two_pow_add_eq_or_of_lt (i := 8) (b := c) (by omega) x
  rw [show (2 : Nat) ^ 8 = 256 from rfl, Nat.mul_comm] at e
  have e64 : (2 : Nat) ^ 64 = 18446744073709551616 := by decide +kernel
  rw [h0, e1, e2, BitVec.toNat_or, BitVec.toNat_ofNat, BitVec.toNat_ofNat, e64, Nat.mod_eq_of_lt (by omega), Nat.mod_eq_of_lt (by omega), ← e]
  exact congrArg some (by rw [wrap_i64 (by omega) (by omega)]; omega)
end Go.Proofs.YtdigejpgjnhclaaDoor.Vm
