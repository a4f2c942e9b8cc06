/- Disks that raw things make. Conditions: none. -/
import Derived.Test.YtalcpfpjkfpmbaaDiskD
namespace Go.Proofs.Ytalcpfpjkfpmbaa.Vm
open Go Go.RowKit
set_option linter.unusedVariables false
set_option linter.unusedSimpArgs false
attribute [local irreducible] Ops Dr Run
section
variable {E : Env} {n : Nat} {tm : List (Nat × AV)} {bx : List (Nat × Box)} {ops : Array Oper} {l : List Oper} {d : Tmp} {ty : TypeId} {pos : String} {after : Array Edge}
theorem D.buildArr {Θ : List Rec → St → Prop} {t e : TypeId} {len : Nat} {parts : Array (Nat × Operand)} {i ie : TI} {zs cs : List AV} (hE : E.Ok) (ht : E.T t = some i) (hk : i.desc = .arr len e) (he : E.T e = some ie) (hz : pvsO i.zero = some zs) (hf : fillO E (fun j => some (j * ie.size, ie.size)) tm zs parts.toList = some cs) (hd : Nat.blt d n = true)
    (h : Dr E.P E.g ops l ⟨n, (d, .agg cs) :: tm, bx⟩ (fun rs => Θ (⟨rtsOf E tm (parts.toList.map (·.2)), [], [], some d, .agg cs, []⟩ :: rs))) : Dr E.P E.g ops (⟨some d, .build t parts, ty, pos, after, none⟩ :: l) ⟨n, tm, bx⟩ Θ :=
  D.of (rt := rtsOf E tm (parts.toList.map (·.2))) (rb := []) (rts_now _) none_met hd (fun s hs _ hd' => OpOk.buildArr (s := s) (hE.t _ _ ht) hk (hE.t _ _ he) (by rw [← pvsO_ok _ _ hz]; exact fillO_ok (n := s.n) (tm := s.tm) (bx := s.bx) _ _ _ (fillO_mono _ _ _ hf hs)) (fun t ht => by obtain rfl := Option.some.inj ht; exact hd')) h
end
variable {g : Nat → Option (List PV)}
abbrev zer : List Int := List.replicate 32 0
theorem fnDNew {n : Nat} (h1 : 1 ≤ n) (h2 : n ≤ 400) : FnC (En Try.prog g) 7 [.pv (.int .i64 (n : Int))] (.tup [dskA (List.replicate n zer) [], .pv (.int .i64 0)]) [] := by
  have hE := EnOk g
  unfold dskA
  rw [List.map_replicate]
  refine FnC.of Try.func7 rfl rfl rfl rfl ?_
  repeat (first | refine Run.seq ?_ | refine Run.skip ?_ | refine Run.block ?_)
  refine Run.region ?_
  refine O.alloc hE 2 T26 rfl rfl rfl ?_
  refine O.assign rfl rfl ?_
  refine O.nil ?_
  try refine Run.keep [0, 2, 3, 9] rfl rfl ?_
  repeat (first | refine Run.seq ?_ | refine Run.skip ?_ | refine Run.block ?_)
  refine Run.region ?_
  refine O.move rfl rfl ?_
  first | refine O.cmp rfl rfl rfl (by first | exact decide_eq_true (by omega) | exact decide_eq_false (by omega)) rfl ?_ | refine O.cmp rfl rfl rfl rfl rfl ?_
  refine O.move rfl rfl ?_
  first | (refine O.yes rfl rfl (by first | rfl | assumption) ?_; refine O.move rfl rfl ?_) | refine O.no rfl rfl rfl rfl ?_
  first | (refine O.yes rfl rfl (by first | rfl | assumption) ?_; first | refine O.cmp rfl rfl rfl (by first | exact decide_eq_true (by omega) | exact decide_eq_false (by omega)) rfl ?_ | refine O.cmp rfl rfl rfl rfl rfl ?_) | refine O.no rfl rfl rfl rfl ?_
  refine O.pick rfl rfl rfl rfl rfl ?_
  refine O.nil ?_
  try refine Run.keep [0, 2, 3, 9] rfl rfl ?_
  repeat (first | refine Run.seq ?_ | refine Run.skip ?_)
  first | refine Run.condT rfl rfl ?_ | refine Run.condF rfl rfl ?_ | refine Run.condT rfl (by assumption) ?_ | refine Run.condF rfl (by assumption) ?_
  repeat (first | refine Run.seq ?_ | refine Run.skip ?_ | refine Run.block ?_)
  refine Run.region ?_
  refine O.move rfl rfl ?_
  refine O.make (m := n) (el := secE zer) hE 12 T23 rfl T64 rfl rfl rfl (fun z hz => by rw [(List.mem_replicate.1 hz).2]; rfl) rfl (by decide) (by dsimp only; omega) (by unfold maxLen; omega) rfl rfl ?_
  refine O.build hE T26 L26 rfl rfl rfl ?_
  refine O.store hE T26 rfl rfl rfl rfl rfl rfl ?_
  refine O.assign rfl rfl ?_
  refine O.nil ?_
  try refine Run.keep [0, 2, 3, 9] rfl rfl ?_
  refine Run.ret ?_
  exact Ends.of hE (.inr rfl) rfl rfl (SLe.res0 (AVle.tups (.cons (AVle.aggs (.cons (AVle.lst _ _ _ (lstOf_glV rfl (by simp))) (.cons (AVle.nil 33) .nil))) (.cons (AVle.of_eq rfl) .nil))) rfl)
/-- What one raw thing does to a disk. -/
def stp (p : List (List Int) × List Pt) (r : Rw) : List (List Int) × List Pt :=
  if r.kd % 5 = 0 then (fl (fun _ => true) p.1 p.2 p.2.length, []) else (p.1, p.2 ++ [⟨((r.a % 6).toNat : Int), [IntKind.u8.wrap r.b, 1, 0, 0, 0, 0, 0, 0, 0, 0, 0, 0, 0, 0, 0, 0, 0, 0, 0, 0, 0, 0, 0, 0, 0, 0, 0, 0, 0, 0, 0, 0]⟩])
def dsk (R : List Rw) : Nat → List (List Int) × List Pt
  | 0 => (List.replicate 6 zer, [])
  | j + 1 => match R[j]? with
    | some r => stp (dsk R j) r
    | none => dsk R j
theorem DOk.synced {Ls : List (List Int)} {Ws : List Pt} (h : DOk Ls Ws) (P : Nat → Bool) (j : Nat) : DOk (fl P Ls Ws j) [] :=
  ⟨by rw [fl_len]; exact h.l1, by rw [fl_len]; exact h.l4, fl_sec h P j, by simp, fun w hw => by simp at hw⟩
theorem DOk.written {Ls : List (List Int)} {Ws : List Pt} (h : DOk Ls Ws) (hW : Ws.length < 60) {i : Nat} (hi : i < Ls.length) {S : List Int} (hS : S.length = 32) : DOk Ls (Ws ++ [⟨i, S⟩]) :=
  ⟨h.l1, h.l4, h.s, by simp; omega, fun w hw => by
    rcases List.mem_append.1 hw with hw | hw
    · exact h.w w hw
    · rw [List.mem_singleton.1 hw]; exact ⟨by simp, by simpa using hi, hS⟩⟩
theorem dsk_ok (R : List Rw) : ∀ j, j ≤ 30 → DOk (dsk R j).1 (dsk R j).2 ∧ (dsk R j).1.length = 6 ∧ (dsk R j).2.length ≤ j
  | 0, _ => ⟨⟨by simp [dsk], by simp [dsk], fun S hS => by rw [(List.mem_replicate.1 hS).2]; simp, by simp [dsk], fun w hw => by simp [dsk] at hw⟩, by simp [dsk], by simp [dsk]⟩
  | j + 1, hj => by
    obtain ⟨h1, h2, h3⟩ := dsk_ok R j (by omega)
    rw [dsk]
    split
    · rename_i r hr
      unfold stp
      split
      · exact ⟨h1.synced _ _, by rw [fl_len]; exact h2, by simp⟩
      · exact ⟨h1.written (by omega) (by omega) rfl, h2, by simp; omega⟩
    · exact ⟨h1, h2, by omega⟩
end Go.Proofs.Ytalcpfpjkfpmbaa.Vm
