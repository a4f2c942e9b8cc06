/- The value machine, sixteenth part: contracts told of values are taken over; what package variables hold. Conditions: none. -/
import Derived.Test.YtcbdhdblchmofaaDoorVmP
import Derived.Shelf.Unicode.DecodeSlow
namespace Go.Proofs.YtcbdhdblchmofaaDoor.Vm
open Go Go.RowKit
set_option linter.unusedVariables false
theorem RP.val {dat : Nat → Nat → Option Value} {p : PV} {v : Value} (h : p.val? = some v) : RP dat p v := by
  cases p <;> simp only [PV.val?] at h <;> first | (cases h; done) | (obtain rfl := Option.some.inj h; constructor)
theorem RA.vals {G : Gh} : ∀ (cs : List AV) (us : List Value), vals? cs = some us → us.length = cs.length ∧ ∀ (i : Nat) x v, cs[i]? = some x → us[i]? = some v → RA G x v
  | [], us, h => by
    simp only [vals?] at h
    obtain rfl := Option.some.inj h
    exact ⟨rfl, fun i x v hx => by simp at hx⟩
  | x :: cs, us, h => by
    simp only [vals?] at h
    split at h
    · rename_i u us' h1 h2
      obtain rfl := Option.some.inj h
      obtain ⟨e1, e2⟩ := RA.vals (G := G) cs us' h2
      refine ⟨by simp [e1], fun i y v hy hv => ?_⟩
      cases i with
      | zero =>
        simp at hy hv
        subst hy
        subst hv
        cases x <;> simp only [AV.val?] at h1 <;> first | cases h1 | exact .pv _ _ (RP.val h1)
      | succ i => exact e2 i y v (by simpa using hy) (by simpa using hv)
    · cases h
theorem RA.flat {G : Gh} {x : AV} {v : Value} (h : x.flat? = some v) : RA G x v := by
  cases x <;> simp only [AV.flat?] at h <;> try (cases h; done)
  · exact .pv _ _ (RP.val h)
  · rw [Option.map_eq_some_iff] at h
    obtain ⟨us, h1, rfl⟩ := h
    obtain ⟨e1, e2⟩ := RA.vals (G := G) _ _ h1
    exact .agg _ _ (by simpa using e1) (fun i x v hx hv => e2 i x v hx (by simpa using hv))
  · rw [Option.map_eq_some_iff] at h
    obtain ⟨us, h1, rfl⟩ := h
    obtain ⟨e1, e2⟩ := RA.vals (G := G) _ _ h1
    exact .tup _ _ (by simpa using e1) (fun i x v hx hv => e2 i x v hx (by simpa using hv))
/-- The package variables hold what is said. -/
def Glo (g : Nat → Option (List PV)) (w : World) : Prop := ∀ k cs, g k = some cs → ∀ (j : Nat) p u, cs[j]? = some p → p.val? = some u → w.cell? ⟨k, j, none⟩ = some u
def flats? : List AV → Option (List Value)
  | [] => some []
  | x :: xs => match x.flat?, flats? xs with
    | some v, some vs => some (v :: vs)
    | _, _ => none
theorem flats_of {G : Gh} : ∀ (cs : List AV) (us vs : List Value), flats? cs = some us → vs.length = cs.length → (∀ (i : Nat) x v, cs[i]? = some x → vs[i]? = some v → RA G x v) → vs = us
  | [], us, vs, h, hl, _ => by
    simp only [flats?] at h
    obtain rfl := Option.some.inj h
    exact List.eq_nil_of_length_eq_zero hl
  | x :: cs, us, vs, h, hl, hr => by
    cases vs with
    | nil => simp at hl
    | cons v vs =>
      simp only [flats?] at h
      split at h
      · rename_i u us' h1 h2
        obtain rfl := Option.some.inj h
        have e1 := (hr 0 x v rfl rfl).of_flat h1
        have e2 := flats_of cs us' vs h2 (by simpa using hl) (fun i y u' hy hu => hr (i + 1) y u' (by simpa using hy) (by simpa using hu))
        rw [e1, e2]
      · cases h
theorem glo_of {g : Nat → Option (List PV)} {dat : Nat → Nat → Option Value} {w : World} (hdat : ∀ b o v, dat b o = some v → w.cell? ⟨b, o, none⟩ = some v) (hglo : ∀ k cs, g k = some cs → RA ⟨dat, fun _ => none, fun _ => none⟩ (.eptr cs) (.pointer (some ⟨k, 0, none⟩))) : Glo g w := by
  intro k cs hk j p u hp hu
  have h := hglo k cs hk
  cases h with
  | eptr _ _ hs h =>
    obtain ⟨v, h1, h2⟩ := h j p hp
    have := hdat _ _ _ h1
    rw [h2.of_val hu] at this
    simpa using this
theorem glo_to {g : Nat → Option (List PV)} {dat : Nat → Nat → Option Value} {w : World} (hdat : ∀ b o v, b < w.heap.size → w.cell? ⟨b, o, none⟩ = some v → dat b o = some v) (h : Glo g w) (hf : ∀ k cs, g k = some cs → ∀ p ∈ cs, ∃ u, p.val? = some u) :
    ∀ k cs, g k = some cs → RA ⟨dat, fun _ => none, fun _ => none⟩ (.eptr cs) (.pointer (some ⟨k, 0, none⟩)) := by
  intro k cs hk
  refine .eptr cs _ rfl fun j x hx => ?_
  obtain ⟨u, hu⟩ := hf k cs hk x (List.mem_of_getElem? hx)
  have h1 := h k cs hk j x u hx hu
  have hlt : k < w.heap.size := by
    rcases Nat.lt_or_ge k w.heap.size with h' | h'
    · exact h'
    · simp [World.cell?, Array.getElem?_eq_none h'] at h1
  exact ⟨u, hdat _ _ _ hlt (by simpa using h1), RP.val hu⟩
/-- A contract told of values is a contract here. -/
theorem FnC.kit {E : Env} {f : FuncId} {fn : Func} {args : List AV} {us : List Value} {vs : Array Value} {r : AV} {v : Value} (hf : E.P.funcs[f]? = some fn) (hname : (fn.name == "runtime.NumGoroutine") = false) (hb : fn.body.isSome = true)
    (hv : flats? args = some us) (hvs : us.toArray = vs) (hr : r.flat? = some v) (h : ∀ w, Glo E.g w → Calls E.P f vs w fun e w' => e = .returned v ∧ Below w.heap.size w w') : FnC E f args r [] := by
  subst hvs
  refine ⟨fun w vals dat hdat hsz hvals hglo => ?_, fn, hf, hname, hb⟩
  have hl : vals = us.toArray := by
    have := flats_of args us vals.toList hv (by simpa using hsz) (fun i x v hx hv => hvals i x v hx (by simpa using hv))
    rw [← this]
  rw [hl]
  refine (h w (glo_of hdat hglo)).mono fun e w' ⟨he, hbel⟩ => ?_
  have hlt : ∀ b o v, dat b o = some v → b < w.heap.size := fun b o v hd => by
    have h1 := hdat b o v hd
    rcases Nat.lt_or_ge b w.heap.size with h' | h'
    · exact h'
    · simp [World.cell?, Array.getElem?_eq_none h'] at h1
  refine ⟨v, ⟨dat, fun _ => none, fun _ => none⟩, he, ?_, rfl, rfl, fun b o v hd => (hbel.cell (hlt b o v hd)).trans (hdat b o v hd), fun b B hB => by simp [look] at hB, fun b k hk => by simp at hk, fun b x hx => by simp at hx, fun b b' k hk => by simp [Gh.own] at hk, hbel, fun b o _ => rfl, hglo, rfl⟩
  intro t
  cases t with
  | zero => exact RA.flat hr
  | succ t => exact .any _
/-- A law's contract, at its own call. -/
theorem FnC.calls {E : Env} {f : FuncId} {args : List AV} {r : AV} {bs : List (Nat × Box)} {v : Value} (h : FnC E f args r bs) (hr : r.flat? = some v) (W : World) (vals : Array Value) (hsz : vals.size = args.length)
    (hvals : ∀ (i : Nat) x v, args[i]? = some x → vals[i]? = some v → RA ⟨fun b o => W.cell? ⟨b, o, none⟩, fun _ => none, fun _ => none⟩ x v) (hg : Glo E.g W) (hgf : ∀ k cs, E.g k = some cs → ∀ p ∈ cs, ∃ u, p.val? = some u) :
    Calls E.P f vals W fun e w' => e = .returned v ∧ Below W.heap.size W w' := by
  refine (h.ok W vals (fun b o => W.cell? ⟨b, o, none⟩) (fun b o v h => h) hsz hvals (glo_to (fun _ _ _ _ h => h) hg hgf)).mono ?_
  rintro e w' ⟨u, G', he, hs⟩
  have := (hs.tm 0)
  refine ⟨?_, hs.bel⟩
  rw [he]
  exact congrArg _ (RA.of_flat this hr)

/-- The two tables of utf8 among the package variables. -/
def tabsG (k3 k4 : Nat) (k : Nat) : Option (List PV) := if k = k3 then some ((List.range 256).map fun c => .int .u8 (Lib.firstT c)) else if k = k4 then some ((List.range 32).map fun j => .int .u8 (if j % 2 = 0 then Lib.accLo (j / 2) else Lib.accHi (j / 2))) else none
theorem tabs_of {g : Nat → Option (List PV)} {k3 k4 : Nat} {w : World} (h3 : g k3 = some ((List.range 256).map fun c => .int .u8 (Lib.firstT c))) (h4 : g k4 = some ((List.range 32).map fun j => .int .u8 (if j % 2 = 0 then Lib.accLo (j / 2) else Lib.accHi (j / 2)))) (h : Glo g w) : Lib.Utf8Tabs k3 k4 w := by
  refine ⟨fun c hc => h k3 _ h3 c (.int .u8 (Lib.firstT c)) _ (by simp [List.getElem?_map, List.getElem?_range hc]) rfl, fun i hi => ⟨?_, ?_⟩⟩
  · exact h k4 _ h4 (2 * i) (.int .u8 (Lib.accLo i)) _ (by rw [List.getElem?_map, List.getElem?_range (by omega)]; simp) rfl
  · exact h k4 _ h4 (2 * i + 1) (.int .u8 (Lib.accHi i)) _ (by rw [List.getElem?_map, List.getElem?_range (by omega)]; simp [show (2 * i + 1) % 2 = 1 by omega, show (2 * i + 1) / 2 = i by omega]) rfl
theorem glo_tabs {k3 k4 : Nat} {w : World} (h : Lib.Utf8Tabs k3 k4 w) : Glo (tabsG k3 k4) w := by
  intro k cs hk j p u hp hu
  unfold tabsG at hk
  split at hk
  · rename_i e
    subst e
    obtain rfl := Option.some.inj hk
    rw [List.getElem?_map, Option.map_eq_some_iff] at hp
    obtain ⟨c, h1, rfl⟩ := hp
    obtain ⟨h2, h3⟩ := List.getElem?_eq_some_iff.1 h1
    simp at h2 h3
    subst h3
    obtain rfl := Option.some.inj hu
    exact h.1 _ h2
  · split at hk
    · rename_i e
      subst e
      obtain rfl := Option.some.inj hk
      rw [List.getElem?_map, Option.map_eq_some_iff] at hp
      obtain ⟨c, h1, rfl⟩ := hp
      obtain ⟨h2, h3⟩ := List.getElem?_eq_some_iff.1 h1
      simp at h2 h3
      subst h3
      obtain rfl := Option.some.inj hu
      by_cases hc : j % 2 = 0
      · rw [if_pos hc]
        have := (h.2 (j / 2) (by omega)).1
        rwa [show 2 * (j / 2) = j by omega] at this
      · rw [if_neg hc]
        have := (h.2 (j / 2) (by omega)).2
        rwa [show 2 * (j / 2) + 1 = j by omega] at this
    · cases hk
theorem tabs_flat {k3 k4 : Nat} : ∀ k cs, tabsG k3 k4 k = some cs → ∀ p ∈ cs, ∃ u, p.val? = some u := by
  intro k cs hk p hp
  unfold tabsG at hk
  split at hk
  · obtain rfl := Option.some.inj hk
    rw [List.mem_map] at hp
    obtain ⟨c, _, rfl⟩ := hp
    exact ⟨_, rfl⟩
  · split at hk
    · obtain rfl := Option.some.inj hk
      rw [List.mem_map] at hp
      obtain ⟨c, _, rfl⟩ := hp
      exact ⟨_, rfl⟩
    · cases hk
theorem sh1_zero (x : AV) : sh1 0 x = x := by cases x <;> rfl
theorem shs1_zero : ∀ l : List AV, shs1 0 l = l
  | [] => rfl
  | x :: l => by simp only [shs1, sh1_zero, shs1_zero l]
theorem sh2_zero (x : AV) : sh2 0 x = x := by cases x <;> simp only [sh2, shs1_zero] <;> exact sh1_zero _
theorem shs2_zero : ∀ l : List AV, shs2 0 l = l
  | [] => rfl
  | x :: l => by simp only [shs2, sh2_zero, shs2_zero l]
theorem sh3_zero (x : AV) : sh3 0 x = x := by cases x <;> simp only [sh3, shs2_zero] <;> exact sh1_zero _
section
variable {E : Env} {n : Nat} {tm : List (Nat × AV)} {bx : List (Nat × Box)} {ops : Array Oper} {l : List Oper} {Θ : St → Prop} {d : Tmp} {ty : TypeId} {pos : String} {after : Array Edge}
/-- A call that brings no boxes. -/
theorem O.callF {f : FuncId} {xs : Array Operand} {ts : Array TypeId} {args : List AV} {r : AV} (hc : FnC E f args r []) (hargs : AVles ⟨n, tm, bx⟩ (xs.toList.map (St.ev ⟨n, tm, bx⟩ E.g)) args) (hcl : closed args = true) (hdr : d2 r = true) (hd : Nat.blt d n = true)
    (h : Ops E.P E.g ops l ⟨n, (d, r) :: tm, bx⟩ Θ) : Ops E.P E.g ops (⟨some d, .call { callee := .value (.func f), args := xs, argTypes := ts }, ty, pos, after, none⟩ :: l) ⟨n, tm, bx⟩ Θ :=
  O.call (bs' := []) (bs2 := bx) 0 hc hargs hcl rfl hdr rfl hd (sh3_zero r) rfl h
/-- The same, with arguments found by reckoning. -/
theorem O.callE {f : FuncId} {xs : Array Operand} {ts : Array TypeId} {args : List AV} {r : AV} (hc : FnC E f args r []) (hargs : evsO E tm xs.toList = some args) (hcl : closed args = true) (hdr : d2 r = true) (hd : Nat.blt d n = true)
    (h : Ops E.P E.g ops l ⟨n, (d, r) :: tm, bx⟩ Θ) : Ops E.P E.g ops (⟨some d, .call { callee := .value (.func f), args := xs, argTypes := ts }, ty, pos, after, none⟩ :: l) ⟨n, tm, bx⟩ Θ := by
  refine O.callF hc ?_ hcl hdr hd h
  have key : ∀ (l : List Operand) (args : List AV), evsO E tm l = some args → AVles ⟨n, tm, bx⟩ (l.map (St.ev ⟨n, tm, bx⟩ E.g)) args := by
    intro l
    induction l with
    | nil => intro args h; obtain rfl := Option.some.inj h; exact .nil
    | cons x l ih =>
      intro args h
      simp only [evsO] at h
      split at h
      · rename_i y ys h1 h2
        obtain rfl := Option.some.inj h
        exact .cons (AVle.of_eq (evO_ok h1)) (ih _ h2)
      · cases h
  exact key _ _ hargs
theorem D.callE {Θ : List Rec → St → Prop} {f : FuncId} {xs : Array Operand} {ts : Array TypeId} {args : List AV} {r : AV} (hc : FnC E f args r []) (hargs : evsO E tm xs.toList = some args) (hcl : closed args = true) (hdr : d2 r = true) (hd : Nat.blt d n = true)
    (h : Dr E.P E.g ops l ⟨n, (d, r) :: tm, bx⟩ (fun rs => Θ (⟨rtsOf E tm xs.toList, [], [], some d, r, []⟩ :: rs))) :
    Dr E.P E.g ops (⟨some d, .call { callee := .value (.func f), args := xs, argTypes := ts }, ty, pos, after, none⟩ :: l) ⟨n, tm, bx⟩ Θ :=
  D.call 0 hc hargs hcl rfl hdr rfl hd (sh3_zero r) rfl h
end

/-- Two numbers compared. -/
def cmpI (b : BinOp) (m j : Int) : Option Bool :=
  match b with
  | .eql => some (decide (m = j))
  | .neq => some (decide (m ≠ j))
  | .lss => some (decide (m < j))
  | .leq => some (decide (m ≤ j))
  | .gtr => some (decide (j < m))
  | .geq => some (decide (j ≤ m))
  | _ => none
theorem cmpI_ok {P : Program} {b : BinOp} {t : TypeId} {k : IntKind} {m j : Int} {c : Bool} (h : cmpI b m j = some c) : Vm.now P (Go.binOp b t (.int k m) (.int k j)) = some (.bool c) := by
  cases b <;> simp only [cmpI] at h <;> first | (cases h; done) | skip
  all_goals
    obtain rfl := Option.some.inj h
    simp only [Go.binOp, Op.intCmp, ne_eq, not_true, if_false]
    first | rfl | (simp only [bne, BEq.beq]; rfl) | skip
  show some (Value.bool (m != j)) = _
  congr 2
  by_cases hmj : m = j <;> simp [hmj]
/-- Two numbers reckoned with: sums, differences, products. -/
def arI (b : BinOp) (m j : Int) : Option Int :=
  match b with
  | .add => some (m + j)
  | .sub => some (m - j)
  | .mul => some (m * j)
  | _ => none
theorem arI_ok {P : Program} {b : BinOp} {t : TypeId} {k : IntKind} {m j r : Int} (h : arI b m j = some r) : Vm.now P (Go.binOp b t (.int k m) (.int k j)) = some (.int k (k.wrap r)) := by
  cases b <;> simp only [arI] at h <;> first | (cases h; done) | skip
  all_goals
    obtain rfl := Option.some.inj h
    simp only [Go.binOp, Op.intArith, ne_eq, not_true, if_false]
    rfl
section
variable {E : Env} {n : Nat} {tm : List (Nat × AV)} {bx : List (Nat × Box)} {ops : Array Oper} {l : List Oper} {d : Tmp} {ty : TypeId} {pos : String} {after : Array Edge} {b : BinOp} {t t' : TypeId} {y z : Operand} {k : IntKind} {m j r q : Int} {c c' : Bool}
theorem O.cmp {Θ : St → Prop} (hy : evO E tm y = some (.pv (.int k m))) (hz : evO E tm z = some (.pv (.int k j))) (hc : cmpI b m j = some c) (hcc : c = c') (hd : Nat.blt d n = true) (h : Ops E.P E.g ops l ⟨n, (d, .pv (.bool c')) :: tm, bx⟩ Θ) :
    Ops E.P E.g ops (⟨some d, .binOp b t y z t', ty, pos, after, none⟩ :: l) ⟨n, tm, bx⟩ Θ := by
  subst hcc
  exact O.bin (v := .bool c) hy hz rfl rfl (now_bin (cmpI_ok hc)) rfl hd h
theorem D.cmp {Θ : List Rec → St → Prop} (hy : evO E tm y = some (.pv (.int k m))) (hz : evO E tm z = some (.pv (.int k j))) (hc : cmpI b m j = some c) (hcc : c = c') (hd : Nat.blt d n = true) (h : Dr E.P E.g ops l ⟨n, (d, .pv (.bool c')) :: tm, bx⟩ (fun rs => Θ (⟨rtOf y (.pv (.int k m)) ++ rtOf z (.pv (.int k j)), [], [], some d, .pv (.bool c'), []⟩ :: rs))) :
    Dr E.P E.g ops (⟨some d, .binOp b t y z t', ty, pos, after, none⟩ :: l) ⟨n, tm, bx⟩ Θ := by
  subst hcc
  exact D.bin (v := .bool c) hy hz rfl rfl (now_bin (cmpI_ok hc)) rfl hd h
theorem O.ar {Θ : St → Prop} (hy : evO E tm y = some (.pv (.int k m))) (hz : evO E tm z = some (.pv (.int k j))) (hc : arI b m j = some r) (hcc : k.wrap r = q) (hd : Nat.blt d n = true) (h : Ops E.P E.g ops l ⟨n, (d, .pv (.int k q)) :: tm, bx⟩ Θ) :
    Ops E.P E.g ops (⟨some d, .binOp b t y z t', ty, pos, after, none⟩ :: l) ⟨n, tm, bx⟩ Θ := by
  subst hcc
  exact O.bin (v := .int k (k.wrap r)) hy hz rfl rfl (now_bin (arI_ok hc)) rfl hd h
theorem D.ar {Θ : List Rec → St → Prop} (hy : evO E tm y = some (.pv (.int k m))) (hz : evO E tm z = some (.pv (.int k j))) (hc : arI b m j = some r) (hcc : k.wrap r = q) (hd : Nat.blt d n = true) (h : Dr E.P E.g ops l ⟨n, (d, .pv (.int k q)) :: tm, bx⟩ (fun rs => Θ (⟨rtOf y (.pv (.int k m)) ++ rtOf z (.pv (.int k j)), [], [], some d, .pv (.int k q), []⟩ :: rs))) :
    Dr E.P E.g ops (⟨some d, .binOp b t y z t', ty, pos, after, none⟩ :: l) ⟨n, tm, bx⟩ Θ := by
  subst hcc
  exact D.bin (v := .int k (k.wrap r)) hy hz rfl rfl (now_bin (arI_ok hc)) rfl hd h
/-- Two truths: are they alike? -/
theorem O.eqB {Θ : St → Prop} {p p' : Bool} (hy : evO E tm y = some (.pv (.bool p))) (hz : evO E tm z = some (.pv (.bool p'))) {i : TI} (hE : E.Ok) (ht : E.T t = some i) (hk : i.desc = .bool) (hcc : (p == p') = c) (hd : Nat.blt d n = true) (h : Ops E.P E.g ops l ⟨n, (d, .pv (.bool c)) :: tm, bx⟩ Θ) :
    Ops E.P E.g ops (⟨some d, .binOp .eql t y z t', ty, pos, after, none⟩ :: l) ⟨n, tm, bx⟩ Θ := by
  refine Ops.op rfl (OpOk.val (o := ⟨some d, .binOp .eql t y z t', ty, pos, after, none⟩) (dlt hd) (fun cx a w G hP hg hs => ⟨.bool c, ?_, .pv _ _ (.bool _)⟩)) h
  have h1 := hs.ev hg y
  have h2 := hs.ev hg z
  rw [evO_ok hy] at h1
  rw [evO_ok hz] at h2
  have e1 : a.eval y = .bool p := h1.of_val rfl
  have e2 : a.eval z = .bool p' := h2.of_val rfl
  obtain ⟨ds, u1, u2⟩ := tiOf_und (hE.t _ _ ht)
  rw [hk] at u2
  have u3 : ds = .bool := by cases ds <;> simp [kOf] at u2 ⊢
  subst u3
  subst hcc
  have hq : (Op.equalIn Op.maxDepth t (.bool p) (.bool p')).run E.P w = .ok (p == p') w := by
    rw [show Op.maxDepth = 9999 + 1 from rfl]
    unfold Op.equalIn
    rw [Sem.run_bind, run_underlying u1 w]
    rfl
  simp [execOp, e1, e2, eqGuard, Go.binOp, Op.equal, hq, Result.andThen_ok]
end

/-! ### a state made smaller -/
def keepO (tm : List (Nat × AV)) : List Nat → Option (List (Nat × AV))
  | [] => some []
  | k :: ks => match keepO tm ks with
    | none => none
    | some l => match look tm k with
      | some x => some ((k, x) :: l)
      | none => some l
def memN (b : Nat) : List Nat → Bool
  | [] => false
  | c :: l => Nat.beq b c || memN b l
def dedO (seen : List Nat) : List (Nat × Box) → Option (List (Nat × Box))
  | [] => some []
  | (b, B) :: l => match memN b seen with
    | true => dedO seen l
    | false => match dedO (b :: seen) l with
      | some r => some ((b, B) :: r)
      | none => none
theorem keepO_ok {tm : List (Nat × AV)} : ∀ (ks : List Nat) (tm' : List (Nat × AV)), keepO tm ks = some tm' → ∀ t, look tm' t = none ∨ look tm' t = look tm t
  | [], tm', h, t => by obtain rfl := Option.some.inj h; exact .inl rfl
  | k :: ks, tm', h, t => by
    simp only [keepO] at h
    split at h
    · cases h
    · rename_i l hl
      have ih := keepO_ok ks l hl t
      split at h
      · rename_i x hx
        obtain rfl := Option.some.inj h
        rw [look_cons]
        by_cases hk : k = t
        · rw [if_pos hk]; subst hk; exact .inr hx.symm
        · rw [if_neg hk]; exact ih
      · obtain rfl := Option.some.inj h; exact ih
theorem memN_ok {b : Nat} : ∀ {l : List Nat}, memN b l = true ↔ b ∈ l
  | [] => by simp [memN]
  | c :: l => by
    simp only [memN, Bool.or_eq_true, List.mem_cons, memN_ok (l := l)]
    constructor
    · rintro (h | h)
      · exact .inl (Nat.eq_of_beq_eq_true h)
      · exact .inr h
    · rintro (h | h)
      · exact .inl (h ▸ Nat.beq_refl b)
      · exact .inr h
theorem dedO_ok : ∀ (bx : List (Nat × Box)) (seen : List Nat) (bx' : List (Nat × Box)), dedO seen bx = some bx' → ∀ b, (b ∈ seen → look bx' b = none) ∧ (b ∉ seen → look bx' b = look bx b)
  | [], seen, bx', h, b => by obtain rfl := Option.some.inj h; exact ⟨fun _ => rfl, fun _ => rfl⟩
  | (c, B) :: l, seen, bx', h, b => by
    simp only [dedO] at h
    split at h
    · rename_i hm
      have hc := memN_ok.1 hm
      obtain ⟨e1, e2⟩ := dedO_ok l seen bx' h b
      refine ⟨e1, fun hb => ?_⟩
      rw [look_cons, if_neg (fun (e : c = b) => hb (e ▸ hc))]
      exact e2 hb
    · rename_i hm
      have hc : c ∉ seen := fun hc => by rw [memN_ok.2 hc] at hm; cases hm
      split at h
      · rename_i r hr
        obtain rfl := Option.some.inj h
        obtain ⟨e1, e2⟩ := dedO_ok l (c :: seen) r hr b
        rw [look_cons, look_cons]
        by_cases hcb : c = b
        · subst hcb
          rw [if_pos rfl, if_pos rfl]
          exact ⟨fun hb => absurd hb hc, fun _ => rfl⟩
        · rw [if_neg hcb, if_neg hcb]
          exact ⟨fun hb => e1 (List.mem_cons_of_mem _ hb), fun hb => e2 (fun h => by
            rcases List.mem_cons.1 h with h | h
            · exact hcb h.symm
            · exact hb h)⟩
      · cases h
theorem SLe.keep {n : Nat} {tm tm' : List (Nat × AV)} {bx bx' : List (Nat × Box)} (ks : List Nat) (ht : keepO tm ks = some tm') (hb : dedO [] bx = some bx') : SLe ⟨n, tm, bx⟩ ⟨n, tm', bx'⟩ := by
  intro cx a w G h
  have hl : ∀ b, look bx' b = look bx b := fun b => (dedO_ok bx [] bx' hb b).2 (by simp)
  refine ⟨G, fun t => ?_, h.sz, h.df, h.dat, fun b B hB => h.bx b B (by rw [← hl b]; exact hB), fun b k hk => ?_, fun b x hx => ?_, h.inj, h.bel, h.low, h.glo, h.bas⟩
  · rcases keepO_ok ks tm' ht t with e | e
    · have : St.get ⟨n, tm', bx'⟩ t = .any := by simp [St.get, e]
      rw [this]
      exact .any _
    · have : St.get ⟨n, tm', bx'⟩ t = St.get ⟨n, tm, bx⟩ t := by simp [St.get, e]
      rw [this]
      exact h.tm t
  · obtain ⟨cs, h1⟩ := h.gb b k hk
    exact ⟨cs, by rw [← h1]; exact hl b⟩
  · obtain ⟨e, sz, xs, h1⟩ := h.gl b x hx
    exact ⟨e, sz, xs, by rw [← h1]; exact hl b⟩
theorem Run.keep {P : Program} {g : Nat → Option (List PV)} {c : Code} {Φ : Ex → St → Prop} {n : Nat} {tm tm' : List (Nat × AV)} {bx bx' : List (Nat × Box)} (ks : List Nat) (ht : keepO tm ks = some tm') (hb : dedO [] bx = some bx') (h : Run P g c ⟨n, tm', bx'⟩ Φ) : Run P g c ⟨n, tm, bx⟩ Φ :=
  Run.pre (SLe.keep ks ht hb) h
theorem argsFlat {G : Gh} : ∀ {args : List AV} {us : List Value}, flats? args = some us → ∀ (i : Nat) x v, args[i]? = some x → us.toArray[i]? = some v → RA G x v
  | [], us, h, i, x, v, hx, _ => by simp at hx
  | y :: ys, us, h, i, x, v, hx, hv => by
    simp only [flats?] at h
    split at h
    · rename_i u us' h1 h2
      obtain rfl := Option.some.inj h
      cases i with
      | zero =>
        simp at hx hv
        subst hx
        subst hv
        exact RA.flat h1
      | succ i => exact argsFlat h2 i x v (by simpa using hx) (by simpa using hv)
    · cases h
end Go.Proofs.YtcbdhdblchmofaaDoor.Vm
