/- The value machine, seventh part: a contract out of a body, and calls by contract. Conditions: none. -/
import Derived.Test.YtcbdhdblchmofaaDoorVmF
namespace Go.Proofs.YtcbdhdblchmofaaDoor.Vm
open Go Go.RowKit
set_option linter.unusedVariables false
set_option linter.unusedSimpArgs false

section
variable {P : Program} {g : Nat → Option (List PV)} {s s1 s' : St} {cx : Cx} {a : Act} {w : World} {G : Gh}
theorem run_results (h : SR cx s a w G) {fn : Func} {ys : List AV} (hr : ress s fn.results.toList = some ys) (ht : resTys cx.P s fn.results.toList) : ∃ v, (results fn a.tmps).run cx.P w = .ok v w ∧ RA G (oneOf ys) v := by
  obtain ⟨vs, e1, e2, e3⟩ := run_resultsL h fn.results.toList ys #[] hr ht
  have hm : (results fn a.tmps).run cx.P w = .ok (if h : vs.toArray.size = 1 then vs.toArray[0] else .tuple vs.toArray) w := by
    have h0 : results fn a.tmps = (do
        let vs ← fn.results.mapM (resOp a.tmps)
        pure (if h : vs.size = 1 then vs[0] else .tuple vs)) := rfl
    rw [h0, Array.mapM_eq_foldlM, ← Array.foldlM_toList, Sem.run_bind]
    refine Eq.trans (congrArg (fun r => Result.andThen r _) e3) ?_
    simp
  refine ⟨_, hm, ?_⟩
  cases vs with
  | nil =>
    have hy : ys = [] := List.eq_nil_of_length_eq_zero (by simpa using e1.symm)
    subst hy
    exact .tup [] #[] rfl (fun i x v hx => by simp at hx)
  | cons v vs =>
    cases vs with
    | nil =>
      cases ys with
      | nil => simp at e1
      | cons y ys =>
        have hy : ys = [] := List.eq_nil_of_length_eq_zero (by simpa using e1.symm)
        subst hy
        exact e2 0 y v rfl rfl
    | cons v2 vs =>
      cases ys with
      | nil => simp at e1
      | cons y ys =>
        cases ys with
        | nil => simp at e1
        | cons y2 ys =>
          have hne : ¬ ((v :: v2 :: vs).toArray.size = 1) := by simp
          rw [dif_neg hne]
          exact .tup _ _ (by simpa using e1) (fun i x u hx hu => e2 i x u hx (by simpa using hu))

def params : Nat → List AV → List (Nat × AV)
  | _, [] => []
  | i, x :: xs => (i, x) :: params (i + 1) xs
theorem look_params : ∀ (xs : List AV) (i t : Nat), look (params i xs) t = if i ≤ t then xs[t - i]? else none
  | [], i, t => by simp [params, look]
  | x :: xs, i, t => by
    simp only [params, look_cons]
    by_cases c : i = t
    · subst c; simp
    · rw [if_neg c, look_params xs (i + 1) t]
      by_cases c2 : i ≤ t
      · rw [if_pos (by omega), if_pos c2]
        have : t - i = (t - (i + 1)) + 1 := by omega
        rw [this]
        simp
      · rw [if_neg (by omega), if_neg c2]

/-- A function's contract, out of its body. -/
theorem FnOk.mk {f : FuncId} {fn : Func} {c : Code} {args : List AV} {x : Ex} {ys : List AV} {r : AV} {bs : List (Nat × Box)} (hf : P.funcs[f]? = some fn) (hc : fn.body = some c) (hn : Nat.ble args.length fn.ntmps = true)
    (h : Runs P g c ⟨fn.ntmps, params 0 args, []⟩ x s1) (hx : x = .normal ∨ x = .ret) (hy : ress s1 fn.results.toList = some ys) (ht : resTys P s1 fn.results.toList) (hr : oneOf ys = r)
    (hle : SLe ⟨1, [(0, r)], s1.bx⟩ ⟨1, [(0, r)], bs⟩) : FnOk P g f args r bs := by
  intro w vals dat hdat hsz hvals hglo
  refine calls_of_wp hf hc ?_
  have hn := Nat.le_of_ble_eq_true hn
  have h0 : SR ⟨P, w.heap.size, w, dat, g⟩ ⟨fn.ntmps, params 0 args, []⟩ { tmps := vals ++ Array.replicate (fn.ntmps - vals.size) undef, defers := [] } w ⟨dat, fun _ => none, fun _ => none⟩ := by
    refine ⟨fun t => ?_, by simp; omega, rfl, hdat, fun b B hB => by simp [look] at hB, fun b k hk => by simp at hk, fun b x hx => by simp at hx, fun b b' k hk => by simp [Gh.own] at hk, Below.refl _ _, fun b o hb => rfl, hglo, rfl⟩
    unfold St.get
    rw [look_params]
    simp only [Nat.zero_le, if_true, Nat.sub_zero]
    cases ha : args[t]? with
    | none => exact .any _
    | some y =>
      have hlt := (List.getElem?_eq_some_iff.1 ha).1
      have hv : (vals ++ Array.replicate (fn.ntmps - vals.size) undef).getD t undef = vals[t]'(by omega) := by
        rw [Array.getD_eq_getD_getElem?, Array.getElem?_append_left (by omega)]
        simp [show t < vals.size by omega]
      rw [hv]
      exact hvals t y _ ha (by simp [show t < vals.size by omega])
  refine Code.wp_mono ?_ (h _ _ w _ rfl rfl h0)
  rintro e a' w' ⟨he, G', hs⟩
  obtain ⟨v, e1, e2⟩ := run_results hs hy ht
  rw [hr] at e2
  have hs1 : SR ⟨P, w.heap.size, w, dat, g⟩ ⟨1, [(0, r)], s1.bx⟩ ⟨#[v], []⟩ w' G' :=
    ⟨fun t => by
      cases t with
      | zero => exact e2
      | succ t => exact .any _, rfl, rfl, hs.dat, hs.bx, hs.gb, hs.gl, hs.inj, hs.bel, hs.low, hs.glo, hs.bas⟩
  obtain ⟨G2, hs2⟩ := hle _ _ _ _ hs1
  rcases hx with rfl | rfl <;> cases e <;> simp only [Ex.is] at he
  · exact ⟨hs.df, v, e1, v, G2, rfl, hs2⟩
  · exact ⟨hs.df, v, e1, v, G2, rfl, hs2⟩

/-- Boxes under other numbers. -/
def sh1 (k : Nat) : AV → AV
  | .gl b n => .gl (b + k) n
  | .ptr b o => .ptr (b + k) o
  | .vrow b o n => .vrow (b + k) o n
  | x => x
def shs1 (k : Nat) : List AV → List AV
  | [] => []
  | x :: xs => sh1 k x :: shs1 k xs
def sh2 (k : Nat) : AV → AV
  | .agg cs => .agg (shs1 k cs)
  | .tup cs => .tup (shs1 k cs)
  | .clo f cs => .clo f (shs1 k cs)
  | x => sh1 k x
def shs2 (k : Nat) : List AV → List AV
  | [] => []
  | x :: xs => sh2 k x :: shs2 k xs
def sh3 (k : Nat) : AV → AV
  | .agg cs => .agg (shs2 k cs)
  | .tup cs => .tup (shs2 k cs)
  | .clo f cs => .clo f (shs2 k cs)
  | x => sh1 k x
def men0 (bx : List (Nat × Box)) : AV → Bool
  | .agg _ | .tup _ | .clo _ _ => false
  | x => men1 bx x
def Gh.Sh (k : Nat) (G G' : Gh) : Prop :=
  (∀ b o v, G.dat b o = some v → G'.dat b o = some v) ∧ (∀ b c, G.blk b = some c → G'.blk (b + k) = some c) ∧ (∀ b x, G.ls b = some x → G'.ls (b + k) = some x)
theorem RA.sh1 {G G' : Gh} {k : Nat} (hG : G.Sh k G') {x : AV} {v : Value} (h : RA G x v) (hm : men0 [] x = true ∨ (∀ cs, x ≠ .agg cs) ∧ (∀ cs, x ≠ .tup cs) ∧ (∀ f cs, x ≠ .clo f cs)) : RA G' (Vm.sh1 k x) v := by
  have hno : (∀ cs, x ≠ .agg cs) ∧ (∀ cs, x ≠ .tup cs) ∧ (∀ f cs, x ≠ .clo f cs) := by
    rcases hm with hm | hm
    · cases x <;> simp [men0] at hm ⊢
    · exact hm
  cases h with
  | any v => exact .any v
  | pv p v h => exact .pv p v (h.mono hG.1)
  | agg cs => exact absurd rfl (hno.1 cs)
  | tup cs => exact absurd rfl (hno.2.1 cs)
  | clo f cs => exact absurd rfl (hno.2.2 f cs)
  | gl b n v sz xs hh hb hn hp hv => exact .gl (b + k) n v sz xs hh (hG.2.2 b _ hb) hn (hp.mono hG.1) hv
  | ptr b o c hb => exact .ptr (b + k) o c (hG.2.1 b c hb)
  | vrow b o n c q hb hc => exact .vrow (b + k) o n c q (hG.2.1 b q hb) hc
  | eptr cs ad hs h => exact .eptr cs ad hs fun j x hx => let ⟨v, h1, h2⟩ := h j x hx; ⟨v, hG.1 _ _ _ h1, h2.mono hG.1⟩
/-- Flat to that depth. -/
def d0 : AV → Bool
  | .agg _ | .tup _ | .clo _ _ => false
  | _ => true
def ds0 : List AV → Bool
  | [] => true
  | x :: xs => d0 x && ds0 xs
def d1 : AV → Bool
  | .agg cs | .tup cs | .clo _ cs => ds0 cs
  | _ => true
def ds1 : List AV → Bool
  | [] => true
  | x :: xs => d1 x && ds1 xs
def d2 : AV → Bool
  | .agg cs | .tup cs | .clo _ cs => ds1 cs
  | _ => true
theorem d0_no {x : AV} (h : d0 x = true) : (∀ cs, x ≠ .agg cs) ∧ (∀ cs, x ≠ .tup cs) ∧ (∀ f cs, x ≠ .clo f cs) := by cases x <;> simp [d0] at h ⊢
theorem shs1_get {k : Nat} : ∀ (l : List AV) (i : Nat), (shs1 k l)[i]? = (l[i]?).map (Vm.sh1 k)
  | [], i => by simp [shs1]
  | x :: l, i => by cases i with
    | zero => simp [shs1]
    | succ i => simpa [shs1] using shs1_get l i
theorem shs1_len {k : Nat} : ∀ (l : List AV), (shs1 k l).length = l.length
  | [] => rfl
  | x :: l => by simp [shs1, shs1_len l]
theorem shs2_get {k : Nat} : ∀ (l : List AV) (i : Nat), (shs2 k l)[i]? = (l[i]?).map (Vm.sh2 k)
  | [], i => by simp [shs2]
  | x :: l, i => by cases i with
    | zero => simp [shs2]
    | succ i => simpa [shs2] using shs2_get l i
theorem shs2_len {k : Nat} : ∀ (l : List AV), (shs2 k l).length = l.length
  | [] => rfl
  | x :: l => by simp [shs2, shs2_len l]
theorem ds0_mem : ∀ {l : List AV}, ds0 l = true → ∀ x ∈ l, d0 x = true
  | [], _, x, hx => by simp at hx
  | y :: l, h, x, hx => by
    simp only [ds0, Bool.and_eq_true] at h
    cases hx with
    | head => exact h.1
    | tail _ hx => exact ds0_mem h.2 x hx
theorem ds1_mem : ∀ {l : List AV}, ds1 l = true → ∀ x ∈ l, d1 x = true
  | [], _, x, hx => by simp at hx
  | y :: l, h, x, hx => by
    simp only [ds1, Bool.and_eq_true] at h
    cases hx with
    | head => exact h.1
    | tail _ hx => exact ds1_mem h.2 x hx
theorem RA.sh2 {G G' : Gh} {k : Nat} (hG : G.Sh k G') {x : AV} {v : Value} (h : RA G x v) (hd : d1 x = true) : RA G' (Vm.sh2 k x) v := by
  have one : ∀ (cs : List AV) (vs : Array Value), (∀ (i : Nat) x v, cs[i]? = some x → vs[i]? = some v → RA G x v) → ds0 cs = true → ∀ (i : Nat) x v, (shs1 k cs)[i]? = some x → vs[i]? = some v → RA G' x v := by
    intro cs vs hr hds i x v hx hv
    rw [shs1_get, Option.map_eq_some_iff] at hx
    obtain ⟨y, hy, rfl⟩ := hx
    exact (hr i y v hy hv).sh1 hG (.inr (d0_no (ds0_mem hds y (List.mem_of_getElem? hy))))
  cases x with
  | agg cs => cases h with | agg _ vs hl h => exact .agg _ vs (by rw [shs1_len]; exact hl) (one cs vs h hd)
  | tup cs => cases h with | tup _ vs hl h => exact .tup _ vs (by rw [shs1_len]; exact hl) (one cs vs h hd)
  | clo f cs => cases h with | clo _ _ vs hl h => exact .clo f _ vs (by rw [shs1_len]; exact hl) (one cs vs h hd)
  | _ => exact h.sh1 hG (.inr (d0_no rfl))
theorem RA.sh3 {G G' : Gh} {k : Nat} (hG : G.Sh k G') {x : AV} {v : Value} (h : RA G x v) (hd : d2 x = true) : RA G' (Vm.sh3 k x) v := by
  have one : ∀ (cs : List AV) (vs : Array Value), (∀ (i : Nat) x v, cs[i]? = some x → vs[i]? = some v → RA G x v) → ds1 cs = true → ∀ (i : Nat) x v, (shs2 k cs)[i]? = some x → vs[i]? = some v → RA G' x v := by
    intro cs vs hr hds i x v hx hv
    rw [shs2_get, Option.map_eq_some_iff] at hx
    obtain ⟨y, hy, rfl⟩ := hx
    exact (hr i y v hy hv).sh2 hG (ds1_mem hds y (List.mem_of_getElem? hy))
  cases x with
  | agg cs => cases h with | agg _ vs hl h => exact .agg _ vs (by rw [shs2_len]; exact hl) (one cs vs h hd)
  | tup cs => cases h with | tup _ vs hl h => exact .tup _ vs (by rw [shs2_len]; exact hl) (one cs vs h hd)
  | clo f cs => cases h with | clo _ _ vs hl h => exact .clo f _ vs (by rw [shs2_len]; exact hl) (one cs vs h hd)
  | _ => exact h.sh1 hG (.inr (d0_no rfl))
def shB (k : Nat) : Box → Box
  | .var cs => .var (shs2 k cs)
  | B => B
def dB : Box → Bool
  | .var cs => ds1 cs
  | _ => true
def shBs (k : Nat) : List (Nat × Box) → List (Nat × Box)
  | [] => []
  | (b, B) :: l => (b + k, shB k B) :: shBs k l
def dBs : List (Nat × Box) → Bool
  | [] => true
  | (_, B) :: l => dB B && dBs l
/-- No box has a number from there on. -/
def allLt (k : Nat) : List (Nat × Box) → Bool
  | [] => true
  | (b, _) :: l => Nat.blt b k && allLt k l
theorem allLt_look {k : Nat} : ∀ {l : List (Nat × Box)}, allLt k l = true → ∀ b B, look l b = some B → b < k
  | [], _, b, B, h => by simp [look] at h
  | (c, C) :: l, hl, b, B, h => by
    simp only [allLt, Bool.and_eq_true] at hl
    rw [look_cons] at h
    by_cases e : c = b
    · subst e; exact Nat.le_of_ble_eq_true hl.1
    · rw [if_neg e] at h; exact allLt_look hl.2 b B h
theorem look_append {α : Type} : ∀ (l m : List (Nat × α)) (i : Nat), look (l ++ m) i = match look l i with | some x => some x | none => look m i
  | [], m, i => by simp [look]
  | (k, x) :: l, m, i => by
    simp only [List.cons_append, look_cons]
    by_cases c : k = i
    · simp [c]
    · simp only [if_neg c]; exact look_append l m i
theorem look_shBs {k : Nat} : ∀ (l : List (Nat × Box)) (i : Nat), look (shBs k l) i = if k ≤ i then (look l (i - k)).map (shB k) else none
  | [], i => by simp [shBs, look]
  | (b, B) :: l, i => by
    simp only [shBs, look_cons]
    by_cases c : b + k = i
    · subst c; simp
    · rw [if_neg c, look_shBs l i]
      by_cases c2 : k ≤ i
      · rw [if_pos c2, if_pos c2, if_neg (by omega)]
      · rw [if_neg c2, if_neg c2]
theorem dBs_look : ∀ {l : List (Nat × Box)}, dBs l = true → ∀ b B, look l b = some B → dB B = true
  | [], _, b, B, h => by simp [look] at h
  | (c, C) :: l, hl, b, B, h => by
    simp only [dBs, Bool.and_eq_true] at hl
    rw [look_cons] at h
    by_cases e : c = b
    · rw [if_pos e] at h; obtain rfl := Option.some.inj h; exact hl.1
    · rw [if_neg e] at h; exact dBs_look hl.2 b B h
theorem ownsRow_base {base base' e size n : Nat} {v : Value} {xs : List Value} (h : w.ownsRow base e size v n xs) (hb : base' ≤ base) : w.ownsRow base' e size v n xs := by
  refine ⟨h.1, ?_⟩
  rcases h.2 with hn | ⟨gg, cap, cur, h1, h2, rest⟩
  · exact .inl hn
  · exact .inr ⟨gg, cap, cur, h1, by omega, rest⟩

/-- The numbers of the new boxes are free. -/
def freeB (k : Nat) (bx : List (Nat × Box)) : List (Nat × Box) → Bool
  | [] => true
  | (b, _) :: l => !has bx (b + k) && freeB k bx l
theorem freeB_look {k : Nat} {bx : List (Nat × Box)} : ∀ {l : List (Nat × Box)}, freeB k bx l = true → ∀ b B, look l b = some B → has bx (b + k) = false
  | [], _, b, B, h => by simp [look] at h
  | (c, C) :: l, hl, b, B, h => by
    simp only [freeB, Bool.and_eq_true, Bool.not_eq_true'] at hl
    rw [look_cons] at h
    by_cases e : c = b
    · subst e; exact hl.1
    · rw [if_neg e] at h; exact freeB_look hl.2 b B h
theorem allLt_free {k : Nat} {bx : List (Nat × Box)} (h : allLt k bx = true) : ∀ (l : List (Nat × Box)), freeB k bx l = true
  | [] => rfl
  | (b, B) :: l => by
    simp only [freeB, Bool.and_eq_true, Bool.not_eq_true']
    refine ⟨?_, allLt_free h l⟩
    cases hb : has bx (b + k) with
    | false => rfl
    | true =>
      unfold has at hb
      obtain ⟨C, hC⟩ := Option.isSome_iff_exists.1 hb
      have := allLt_look h _ C hC
      omega
/-- What a callee leaves, joined to what the caller has. -/
theorem SR.join (hs : SR cx s a w G) {k : Nat} {bs : List (Nat × Box)} {r : AV} {v : Value} {w' : World} {G2 : Gh} (hk : freeB k s.bx bs = true) (hdr : d2 r = true) (hdb : dBs bs = true)
    (h2 : SR ⟨cx.P, w.heap.size, w, G.dat, cx.g⟩ ⟨1, [(0, r)], bs⟩ ⟨#[v], []⟩ w' G2) {d : Nat} (hd : d < s.n) :
    ∃ G', SR cx (St.put { s with bx := shBs k bs ++ s.bx } d (sh3 k r)) (a.put (some d) v) w' G' := by
  have hfree : ∀ b B, look bs b = some B → has s.bx (b + k) = false := fun b B h => freeB_look hk b B h
  have hhas : ∀ b B, look s.bx b = some B → has s.bx b = true := fun b B h => by simp [has, h]
  have hbase : cx.base ≤ w.heap.size := hs.basele
  have hdat : ∀ b o, b < w.heap.size → G2.dat b o = G.dat b o := fun b o hb => h2.low b o hb
  have hdle : ∀ b o u, G.dat b o = some u → G2.dat b o = some u := fun b o u hu => by rw [hdat b o (hs.dat_lt hu)]; exact hu
  obtain ⟨G', hG⟩ : ∃ G' : Gh, G' = ⟨G2.dat, fun b => if has s.bx b = true then G.blk b else if k ≤ b then G2.blk (b - k) else none, fun b => if has s.bx b = true then G.ls b else if k ≤ b then G2.ls (b - k) else none⟩ := ⟨_, rfl⟩
  have hle : G.Le G' := by
    subst hG
    refine ⟨hdle, fun b c hb => ?_, fun b sz xs hh hb => ⟨[], hh, ?_, fun _ => rfl⟩⟩
    · obtain ⟨cs, h1⟩ := hs.gb b c hb
      simp only [hhas b _ h1, if_true]; exact hb
    · obtain ⟨e, sz', xs', h1⟩ := hs.gl b _ hb
      simp only [hhas b _ h1, if_true, List.append_nil]; exact hb
  have hsh : G2.Sh k G' := by
    subst hG
    refine ⟨fun _ _ _ h => h, fun b c hb => ?_, fun b x hb => ?_⟩
    · obtain ⟨cs, h1⟩ := h2.gb b c hb
      have := hfree b _ h1
      simp [this, hb]
    · obtain ⟨e, sz, xs, h1⟩ := h2.gl b x hb
      have := hfree b _ h1
      simp [this, hb]
  have hown1 : ∀ b, has s.bx b = true → G'.own b = G.own b := fun b hb => by subst hG; simp [Gh.own, hb]
  have hown2 : ∀ b, ¬ has s.bx b = true → G'.own b = if k ≤ b then G2.own (b - k) else none := fun b hb => by
    subst hG
    by_cases c : k ≤ b
    · simp [Gh.own, hb, c]
    · simp [Gh.own, hb, c]
  have hbel : Below w.heap.size w w' := h2.bel
  have hv : RA G2 r v := h2.tm 0
  have h0 : SR cx { s with bx := shBs k bs ++ s.bx } a w' G' := by
    refine ⟨fun t => (hs.tm t).mono hle, hs.sz, hs.df, fun b o u hu => h2.dat b o u (by subst hG; exact hu), fun b B hB => ?_, fun b c hc => ?_, fun b x hx => ?_, fun b b' c hc hc' => ?_, hs.bel.trans (hbel.mono hbase), fun b o hb => ?_, fun gg cs hg => (hs.glo gg cs hg).mono hle, hs.bas⟩
    · rw [look_append, look_shBs] at hB
      by_cases c : k ≤ b ∧ ∃ B0, look bs (b - k) = some B0
      · obtain ⟨c, B0, hl⟩ := c
        rw [if_pos c, hl] at hB
        simp only [Option.map_some] at hB
        obtain rfl := Option.some.inj hB
        have hB0 := h2.bx _ _ hl
        have hdB := dBs_look hdb _ _ hl
        have heq : b - k + k = b := by omega
        cases B0 with
        | var cs =>
          obtain ⟨q, ty, vs, e1, e2, e3, e4, e5, e6⟩ := hB0
          refine ⟨q, ty, vs, by have := hsh.2.1 _ _ e1; rw [heq] at this; exact this, by have : w.heap.size ≤ q := e2; omega, e3, by rw [shs2_len]; exact e4, fun i x u hx hu => ?_, fun o => by subst hG; exact e6 o⟩
          rw [shs2_get, Option.map_eq_some_iff] at hx
          obtain ⟨y, hy, rfl⟩ := hx
          exact (e5 i y u hy hu).sh2 hsh (ds1_mem hdB y (List.mem_of_getElem? hy))
        | lst e sz xs =>
          obtain ⟨hh, us, e1, e2, e3, e4, e5⟩ := hB0
          exact ⟨hh, us, by have := hsh.2.2 _ _ e1; rw [heq] at this; exact this, e2, ownsRow_base e3 hbase, by subst hG; exact e4, fun q hq o ho => by subst hG; exact e5 q hq o ho⟩
      · have hB' : look s.bx b = some B := by
          by_cases c1 : k ≤ b
          · rw [if_pos c1] at hB
            cases hl : look bs (b - k) with
            | none => rw [hl] at hB; exact hB
            | some B0 => exact absurd ⟨c1, B0, hl⟩ c
          · rw [if_neg c1] at hB; exact hB
        refine (hs.bx b B hB').keep hle (by subst hG; simp [hhas b B hB']) (fun q hq => ?_) (fun x q hx hq => ?_)
        · have hql := (hs.own_lt (hs.own_var hq)).2
          exact ⟨hbel.block q hql, fun o ho => by subst hG; show G2.dat q o = none; rw [hdat q o hql]; exact ho⟩
        · have hql := (hs.own_lt ((hs.own_lst hx).trans hq)).2
          exact ⟨hbel.block q hql, fun o ho => by subst hG; show G2.dat q o = none; rw [hdat q o hql]; exact ho⟩
    · rw [look_append, look_shBs]
      by_cases c1 : has s.bx b = true
      · have hc' : G.blk b = some c := by subst hG; simpa [c1] using hc
        obtain ⟨cs, h1⟩ := hs.gb b c hc'
        have hno : (if k ≤ b then (look bs (b - k)).map (shB k) else none) = none := by
          by_cases c2 : k ≤ b
          · rw [if_pos c2]
            cases hl : look bs (b - k) with
            | none => rfl
            | some B0 =>
              have := hfree _ _ hl
              rw [show b - k + k = b by omega, c1] at this; cases this
          · rw [if_neg c2]
        rw [hno]
        exact ⟨cs, h1⟩
      · have hc' : k ≤ b ∧ G2.blk (b - k) = some c := by
          subst hG
          simp only [c1, Bool.false_eq_true, if_false] at hc
          by_cases c2 : k ≤ b
          · rw [if_pos c2] at hc; exact ⟨c2, hc⟩
          · rw [if_neg c2] at hc; cases hc
        obtain ⟨cs, h1⟩ := h2.gb _ c hc'.2
        rw [if_pos hc'.1, h1]
        exact ⟨_, rfl⟩
    · rw [look_append, look_shBs]
      by_cases c1 : has s.bx b = true
      · have hx' : G.ls b = some x := by subst hG; simpa [c1] using hx
        obtain ⟨e, sz, xs, h1⟩ := hs.gl b x hx'
        have hno : (if k ≤ b then (look bs (b - k)).map (shB k) else none) = none := by
          by_cases c2 : k ≤ b
          · rw [if_pos c2]
            cases hl : look bs (b - k) with
            | none => rfl
            | some B0 =>
              have := hfree _ _ hl
              rw [show b - k + k = b by omega, c1] at this; cases this
          · rw [if_neg c2]
        rw [hno]
        exact ⟨e, sz, xs, h1⟩
      · have hx' : k ≤ b ∧ G2.ls (b - k) = some x := by
          subst hG
          simp only [c1, Bool.false_eq_true, if_false] at hx
          by_cases c2 : k ≤ b
          · rw [if_pos c2] at hx; exact ⟨c2, hx⟩
          · rw [if_neg c2] at hx; cases hx
        obtain ⟨e, sz, xs, h1⟩ := h2.gl _ x hx'.2
        rw [if_pos hx'.1, h1]
        exact ⟨e, sz, xs, rfl⟩
    · by_cases c1 : has s.bx b = true <;> by_cases c2 : has s.bx b' = true
      · rw [hown1 b c1] at hc; rw [hown1 b' c2] at hc'; exact hs.inj b b' c hc hc'
      · rw [hown1 b c1] at hc; rw [hown2 b' c2] at hc'
        by_cases c3 : k ≤ b'
        · rw [if_pos c3] at hc'
          have := (hs.own_lt hc).2; have h3 : w.heap.size ≤ c := (h2.own_lt hc').1; omega
        · rw [if_neg c3] at hc'; cases hc'
      · rw [hown2 b c1] at hc; rw [hown1 b' c2] at hc'
        by_cases c3 : k ≤ b
        · rw [if_pos c3] at hc
          have := (hs.own_lt hc').2; have h3 : w.heap.size ≤ c := (h2.own_lt hc).1; omega
        · rw [if_neg c3] at hc; cases hc
      · rw [hown2 b c1] at hc; rw [hown2 b' c2] at hc'
        by_cases c3 : k ≤ b
        · by_cases c4 : k ≤ b'
          · rw [if_pos c3] at hc; rw [if_pos c4] at hc'
            have := h2.inj _ _ c hc hc'; omega
          · rw [if_neg c4] at hc'; cases hc'
        · rw [if_neg c3] at hc; cases hc
    · subst hG
      show G2.dat b o = _
      rw [hdat b o (by omega)]
      exact hs.low b o hb
  exact ⟨G', h0.put (s := { s with bx := shBs k bs ++ s.bx }) hd (hv.sh3 hsh hdr)⟩

/-- The arguments as the contract wants them: no box in them. -/
def closed : List AV → Bool
  | [] => true
  | x :: xs => men3 [] x && closed xs
theorem closed_mem : ∀ {l : List AV}, closed l = true → ∀ x ∈ l, men3 [] x = true
  | [], _, x, hx => by simp at hx
  | y :: l, h, x, hx => by
    simp only [closed, Bool.and_eq_true] at h
    cases hx with
    | head => exact h.1
    | tail _ hx => exact closed_mem h.2 x hx
theorem OpOk.call {d : Tmp} {f : FuncId} {fn : Func} {xs : Array Operand} {ts : Array TypeId} {ty : TypeId} {pos : String} {after : Array Edge} {gd : Option (Nat × Bool)} {args : List AV} {r : AV} {bs : List (Nat × Box)} (k : Nat)
    (hc : FnOk P g f args r bs) (hf : P.funcs[f]? = some fn) (hname : (fn.name == "runtime.NumGoroutine") = false) (hb : fn.body.isSome = true) (hargs : AVles s (xs.toList.map (s.ev g)) args) (hcl : closed args = true)
    (hk : freeB k s.bx bs = true) (hdr : d2 r = true) (hdb : dBs bs = true) (hd : d < s.n) :
    OpOk P g ⟨some d, .call { callee := .value (.func f), args := xs, argTypes := ts }, ty, pos, after, gd⟩ s (St.put { s with bx := shBs k bs ++ s.bx } d (sh3 k r)) := by
  intro cx a w G hP hg hs K Q hK
  have hrun : (execOp a.eval ⟨some d, .call { callee := .value (.func f), args := xs, argTypes := ts }, ty, pos, after, gd⟩).run P w = .ok (.enter f (xs.map a.eval)) w := by
    have hnb : fn.body ≠ none := fun e => by rw [e] at hb; cases hb
    have hne : fn.name ≠ "runtime.NumGoroutine" := fun e => by simp [e] at hname
    simp [execOp, resolve, Act.eval, Deferred.ofValue, invoke, callFunc, program, Sem.run_bind, Sem.run, hf, hne, hnb, Result.andThen]
  unfold Oper.wp
  rw [hrun]
  subst hP
  subst hg
  obtain ⟨hl, hle⟩ := hargs.get
  have hvals : ∀ (i : Nat) x v, args[i]? = some x → (xs.map a.eval)[i]? = some v → RA ⟨G.dat, fun _ => none, fun _ => none⟩ x v := by
    intro i x v hx hv
    rw [Array.getElem?_map, Option.map_eq_some_iff] at hv
    obtain ⟨y, hy, rfl⟩ := hv
    have h1 := hle i (s.ev cx.g y) x (by simp [hy]) hx
    have h2 := hs.le h1 (hs.ev rfl y)
    exact RA.agree (h := h2) (G := G) (G' := ⟨G.dat, fun _ => none, fun _ => none⟩) (D := has []) (fun _ _ _ h => h) (fun b k hD => by simp [has, look] at hD) (fun b x hD => by simp [has, look] at hD) (men3_ok (closed_mem hcl x (List.mem_of_getElem? hx)))
  have hglo : ∀ k cs, cx.g k = some cs → RA ⟨G.dat, fun _ => none, fun _ => none⟩ (.eptr cs) (.pointer (some ⟨k, 0, none⟩)) := fun k cs hg =>
    RA.agree (h := hs.glo k cs hg) (G := G) (G' := ⟨G.dat, fun _ => none, fun _ => none⟩) (D := has []) (fun _ _ _ h => h) (fun b k hD => by simp [has, look] at hD) (fun b x hD => by simp [has, look] at hD) (.eptr cs)
  refine Calls.mono (hc w (xs.map a.eval) G.dat hs.dat (by simpa using hl) hvals hglo) ?_
  rintro e w' ⟨v, G2, rfl, h2⟩
  obtain ⟨G', h3⟩ := hs.join hk hdr hdb h2 hd
  exact hK _ _ G' h3
end
end Go.Proofs.YtcbdhdblchmofaaDoor.Vm
