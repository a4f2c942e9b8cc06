/- Slices in a drawn region, the lesser of two numbers, the keep's picked. Conditions: none. -/
import Derived.Test.YtlcmnhocicehmaaDoorVmEnv
namespace Go.Proofs.YtlcmnhocicehmaaDoor.Vm
open Go Go.RowKit
set_option linter.unusedVariables false
set_option linter.unusedSimpArgs false
attribute [local irreducible] Ops Dr Run
section
variable {E : Env} {n : Nat} {tm : List (Nat × AV)} {bx : List (Nat × Box)} {ops : Array Oper} {l : List Oper} {d : Tmp} {ty : TypeId} {pos : String} {after : Array Edge}
theorem rts_ev {s : St} : ∀ {ys : List Operand} {x : Operand} {v : AV}, x ∈ ys → evO E tm x = some v → (∀ p ∈ rtsOf E tm ys, look s.tm p.1 = some p.2) → evO E s.tm x = some v
  | y :: ys, x, v, hm, hv, hs => by
    have tail : ∀ p ∈ rtsOf E tm ys, look s.tm p.1 = some p.2 := fun p hp => hs p (by
      cases y with
      | tmp t =>
        simp only [rtsOf]
        split
        · exact List.mem_cons_of_mem _ hp
        · exact hp
      | const v => exact hp
      | global k => exact hp
      | func f => exact hp)
    rcases List.mem_cons.1 hm with rfl | hm
    · cases x with
      | tmp t => exact hs (t, v) (by simp only [rtsOf]; rw [show look tm t = some v from hv]; simp)
      | const c => exact hv
      | global k => exact hv
      | func f => exact hv
    · exact rts_ev hm hv tail
theorem bnd_rts {s : St} {ys : List Operand} {dd m : Int} {x : Option Operand} (h : bndO E tm dd x = some m) (hm : ∀ y, x = some y → y ∈ ys) (hs : ∀ p ∈ rtsOf E tm ys, look s.tm p.1 = some p.2) : bndO E s.tm dd x = some m := by
  cases x with
  | none => exact h
  | some y =>
    simp only [bndO] at h ⊢
    split at h
    · rename_i k m' hy
      rw [rts_ev (hm y rfl) hy hs]
      exact h
    · cases h
theorem D.sliceP {Θ : List Rec → St → Prop} {t e : TypeId} {y : Operand} {lo hi : Option Operand} {i ie : TI} {sz : Nat} {xs ys : List PV} {a b : Int} (hE : E.Ok) (ht : E.T t = some i) (hk : i.desc = .slc e) (he : E.T e = some ie) (hy : evO E tm y = some (.pv (.lst sz xs))) (hsz : sz = ie.size) (hlo : bndO E tm 0 lo = some a) (hhi : bndO E tm xs.length hi = some b)
    (h0 : 0 ≤ a) (h1 : a ≤ b) (h2 : b ≤ xs.length) (hys : (xs.take b.toNat).drop a.toNat = ys) (hd : Nat.blt d n = true)
    (h : Dr E.P E.g ops l ⟨n, (d, .pv (.lst sz ys)) :: tm, bx⟩ (fun rs => Θ (⟨rtsOf E tm (y :: (lo.toList ++ hi.toList)), [], [], some d, .pv (.lst sz ys), []⟩ :: rs))) : Dr E.P E.g ops (⟨some d, .slice t y lo hi none, ty, pos, after, none⟩ :: l) ⟨n, tm, bx⟩ Θ :=
  D.of (rt := rtsOf E tm (y :: (lo.toList ++ hi.toList))) (rb := []) (rts_now _) none_met hd (fun s hs _ hd' => OpOk.sliceLst (s := s) (hE.t _ _ ht) hk (hE.t _ _ he) (evO_ok (n := s.n) (bx := s.bx) (rts_ev (by simp) hy hs)) rfl hsz (bndO_ok (n := s.n) (bx := s.bx) (bnd_rts hlo (fun z hz => by subst hz; simp) hs)) (bndO_ok (n := s.n) (bx := s.bx) (bnd_rts hhi (fun z hz => by subst hz; simp) hs)) h0 h1 h2 hys (fun t ht => by obtain rfl := Option.some.inj ht; exact hd')) h
theorem O.minI {Θ : St → Prop} {x y : Operand} {ts : Array TypeId} {k k' : IntKind} {m j r : Int} (hx : evO E tm x = some (.pv (.int k m))) (hy : evO E tm y = some (.pv (.int k' j))) (hr : (if j < m then j else m) = r) (hd : Nat.blt d n = true) (h : Ops E.P E.g ops l ⟨n, (d, .pv (.int k r)) :: tm, bx⟩ Θ) :
    Ops E.P E.g ops (⟨some d, .call { callee := .builtin .min, args := #[x, y], argTypes := ts }, ty, pos, after, none⟩ :: l) ⟨n, tm, bx⟩ Θ := by
  subst hr
  exact O.min hx hy hd h
end
theorem tmod_pick {a m : Int} (hm : 0 < m) : (a.tmod m < 0 → a.tmod m + m = a % m) ∧ (¬ a.tmod m < 0 → a.tmod m = a % m) := by
  have h1 := Int.emod_nonneg a (show m ≠ 0 by omega)
  have h2 := Int.emod_lt_of_pos a hm
  rw [Int.tmod_eq_emod]
  split <;> omega
theorem fnPick {g : Nat → Option (List PV)} {a m : Int} (h0 : 0 < m) (h1 : m < 4611686018427387904) : FnC (En Tryd.prog g) 13 [.pv (.int .i64 a), .pv (.int .i64 m)] (.pv (.int .i64 (a % m))) [] := by
  have hE := EnOk g
  obtain ⟨p1, p2⟩ := tmod_pick (a := a) h0
  have hlt : a.tmod m < m := Int.tmod_lt_of_pos a h0
  have hgt : -m < a.tmod m := by
    by_cases c : a.tmod m < 0
    · have := p1 c; have := Int.emod_nonneg a (show m ≠ 0 by omega); have := Int.emod_lt_of_pos a h0
      by_cases e : a.tmod m = -m
      · have h3 : a % m = 0 := by omega
        have h4 : a.tmod m = 0 := Int.tmod_eq_zero_of_dvd (Int.dvd_of_emod_eq_zero h3)
        omega
      · omega
    · omega
  refine FnC.of Tryd.func13 rfl rfl rfl rfl ?_
  repeat (first | refine Run.seq ?_ | refine Run.skip ?_ | refine Run.block ?_)
  refine Run.region ?_
  refine O.assign rfl rfl ?_
  refine O.nil ?_
  try refine Run.keep [0,1,4,9] rfl rfl ?_
  repeat (first | refine Run.seq ?_ | refine Run.skip ?_ | refine Run.block ?_)
  refine Run.region ?_
  refine O.move rfl rfl ?_
  refine O.move rfl rfl ?_
  refine O.rem rfl rfl (by omega) rfl ?_
  refine O.assign rfl rfl ?_
  refine O.nil ?_
  try refine Run.keep [0,1,4,9] rfl rfl ?_
  by_cases hc : a.tmod m < 0
  ·
    have e := p1 hc
    repeat (first | refine Run.seq ?_ | refine Run.skip ?_ | refine Run.block ?_)
    refine Run.region ?_
    refine O.move rfl rfl ?_
    first | refine O.cmp rfl rfl rfl (by first | exact dT (by omega) | exact dF (by omega)) rfl ?_ | refine O.cmp rfl rfl rfl rfl rfl ?_
    refine O.nil ?_
    try refine Run.keep [0,1,4,9] rfl rfl ?_
    repeat (first | refine Run.seq ?_ | refine Run.skip ?_)
    first | refine Run.condT rfl rfl ?_ | refine Run.condF rfl rfl ?_ | refine Run.condT rfl (by assumption) ?_ | refine Run.condF rfl (by assumption) ?_
    repeat (first | refine Run.seq ?_ | refine Run.skip ?_ | refine Run.block ?_)
    refine Run.region ?_
    refine O.move rfl rfl ?_
    refine O.move rfl rfl ?_
    first | refine O.ar rfl rfl rfl (by exact wrap_i64 (by omega) (by omega)) rfl ?_ | refine O.ar rfl rfl rfl rfl rfl ?_
    refine O.assign rfl rfl ?_
    refine O.nil ?_
    try refine Run.keep [0,1,4,9] rfl rfl ?_
    repeat (first | refine Run.seq ?_ | refine Run.skip ?_ | refine Run.block ?_)
    refine Run.region ?_
    refine O.move rfl rfl ?_
    refine O.assign rfl rfl ?_
    refine O.nil ?_
    try refine Run.keep [0,1,4,9] rfl rfl ?_
    refine Run.ret ?_
    exact Ends.ex hE (.inr rfl) (.tmp (by rw [← e]; rfl) .nil) rfl rfl
  ·
    have e := p2 hc
    repeat (first | refine Run.seq ?_ | refine Run.skip ?_ | refine Run.block ?_)
    refine Run.region ?_
    refine O.move rfl rfl ?_
    first | refine O.cmp rfl rfl rfl (by first | exact dT (by omega) | exact dF (by omega)) rfl ?_ | refine O.cmp rfl rfl rfl rfl rfl ?_
    refine O.nil ?_
    try refine Run.keep [0,1,4,9] rfl rfl ?_
    repeat (first | refine Run.seq ?_ | refine Run.skip ?_)
    first | refine Run.condT rfl rfl ?_ | refine Run.condF rfl rfl ?_ | refine Run.condT rfl (by assumption) ?_ | refine Run.condF rfl (by assumption) ?_
    repeat (first | refine Run.seq ?_ | refine Run.skip ?_ | refine Run.block ?_)
    refine Run.region ?_
    refine O.move rfl rfl ?_
    refine O.assign rfl rfl ?_
    refine O.nil ?_
    try refine Run.keep [0,1,4,9] rfl rfl ?_
    refine Run.ret ?_
    exact Ends.ex hE (.inr rfl) (.tmp (by rw [← e]; rfl) .nil) rfl rfl
end Go.Proofs.YtlcmnhocicehmaaDoor.Vm
