/- The keep's clean: a text that may be, of so many bytes at most. Conditions: none. -/
import Derived.Test.YtdigejpgjnhclaaDoorVmEnv
import Derived.Test.YtdigejpgjnhclaaDoorRunes
namespace Go.Proofs.YtdigejpgjnhclaaDoor.Vm
open Go Go.RowKit
set_option linter.unusedVariables false
set_option linter.unusedSimpArgs false
attribute [local irreducible] Ops Dr Run
theorem clean_exR {g : Nat → Option (List PV)} (s : ByteArray) {most : Int} (h0 : 0 ≤ most) (h1 : most ≤ 1000) : ∃ t : ByteArray, ((t.size : Int) ≤ most ∧ Runes t) ∧ FnC (En Tryd.prog g) 28 [.pv (.str s), .pv (.int .i64 most)] (.pv (.str t)) [] := by
  have hE := EnOk g
  suffices h : ∃ v, (∃ t : ByteArray, ((t.size : Int) ≤ most ∧ Runes t) ∧ v = .pv (.str t)) ∧ FnC (En Tryd.prog g) 28 [.pv (.str s), .pv (.int .i64 most)] v [] by
    obtain ⟨_, ⟨t, h1, rfl⟩, h2⟩ := h
    exact ⟨t, h1, h2⟩
  refine FnC.ofEx Tryd.func28 rfl rfl rfl rfl ?_
  repeat (first | refine Run.seq ?_ | refine Run.skip ?_ | refine Run.block ?_)
  refine Run.region ?_
  refine O.assign rfl rfl ?_
  refine O.nil ?_
  try refine Run.keep [0,1,4,5,7,9,10,11,17] rfl rfl ?_
  repeat (first | refine Run.seq ?_ | refine Run.skip ?_ | refine Run.block ?_)
  refine Run.region ?_
  refine O.assign rfl rfl ?_
  refine O.nil ?_
  try refine Run.keep [0,1,4,5,7,9,10,11,17] rfl rfl ?_
  repeat (first | refine Run.seq ?_ | refine Run.skip ?_ | refine Run.block ?_)
  refine Run.region ?_
  refine O.move rfl rfl ?_
  refine O.range hE 9 T9 rfl rfl rfl rfl ?_
  refine O.nil ?_
  try refine Run.keep [0,1,4,5,7,9,10,11,17] rfl rfl ?_
  repeat (first | refine Run.seq ?_ | refine Run.skip ?_)
  refine Run.block ?_
  refine Run.loopInv (ι := ByteArray × Nat) (fun p => (p.1.size : Int) ≤ most ∧ Runes p.1) (fun p => ⟨23, [(1, .pv (.int .i64 most)), (5, .pv (.str p.1)), (9, .ptr 9 0)], [(9, .iter s p.2)]⟩) (fun p => s.size - p.2) (ByteArray.empty, 0) ⟨by simpa using h0, Runes.nil⟩ ?_ ?_
  ·
    refine SLe.eqv (by repeat (first | exact TmIn.nil | refine TmIn.cons rfl ?_)) (by repeat (first | exact BxIn.nil | refine BxIn.cons rfl ?_)) rfl
  rintro ⟨out, pos⟩ ⟨hout, hrun⟩ ih
  dsimp only at hout hrun ih ⊢
  by_cases hp : pos < s.size
  ·
    have hw := decode_pos s pos
    obtain ⟨c, wd, hdec⟩ : ∃ c wd, Utf8.decode s pos = (c, wd) := ⟨_, _, rfl⟩
    rw [hdec] at hw
    have hw : 1 ≤ wd := hw
    by_cases hfull : most < (out.size : Int) + 4
    ·
      repeat (first | refine Run.seq ?_ | refine Run.skip ?_ | refine Run.block ?_)
      refine Run.region ?_
      refine O.nextT rfl rfl hp hdec rfl ?_
      refine O.extract rfl rfl rfl ?_
      refine O.nil ?_
      try refine Run.keep [0,1,4,5,7,9,10,11,17] rfl rfl ?_
      repeat (first | refine Run.seq ?_ | refine Run.skip ?_)
      first | refine Run.condT rfl rfl ?_ | refine Run.condF rfl rfl ?_ | refine Run.condT rfl (by assumption) ?_ | refine Run.condF rfl (by assumption) ?_
      repeat (first | refine Run.seq ?_ | refine Run.skip ?_ | refine Run.block ?_)
      refine Run.region ?_
      refine O.extract rfl rfl rfl ?_
      refine O.assign rfl rfl ?_
      refine O.nil ?_
      try refine Run.keep [0,1,4,5,7,9,10,11,17] rfl rfl ?_
      repeat (first | refine Run.seq ?_ | refine Run.skip ?_ | refine Run.block ?_)
      refine Run.region ?_
      refine O.move rfl rfl ?_
      refine O.lenStr hE T9 rfl rfl rfl ?_
      first | refine O.ar rfl rfl rfl (by exact wrap_i64 (by omega) (by omega)) rfl ?_ | refine O.ar rfl rfl rfl rfl rfl ?_
      refine O.move rfl rfl ?_
      first | refine O.cmp rfl rfl rfl (by first | exact dT (by omega) | exact dF (by omega)) rfl ?_ | refine O.cmp rfl rfl rfl rfl rfl ?_
      refine O.nil ?_
      try refine Run.keep [0,1,4,5,7,9,10,11,17] rfl rfl ?_
      repeat (first | refine Run.seq ?_ | refine Run.skip ?_)
      first | refine Run.condT rfl rfl ?_ | refine Run.condF rfl rfl ?_ | refine Run.condT rfl (by assumption) ?_ | refine Run.condF rfl (by assumption) ?_
      refine Run.exit ?_
      repeat (first | refine thenR_exit ?_ | refine roundR_exit ?_ | refine blockR_exit ?_ | refine blockR_pass rfl ?_)
      repeat (first | refine Run.seq ?_ | refine Run.skip ?_ | refine Run.block ?_)
      refine Run.region ?_
      refine O.move rfl rfl ?_
      refine O.assign rfl rfl ?_
      refine O.nil ?_
      try refine Run.keep [0,1,4,5,7,9,10,11,17] rfl rfl ?_
      refine Run.ret ?_
      exact ⟨_, ⟨out, ⟨hout, hrun⟩, rfl⟩, Ends.flat hE (.inr rfl) rfl rfl (AVle.of_eq rfl) rfl⟩
    ·
      have hes := encode_size (c : Int)
      have hsz : (out ++ Utf8.encode (c : Int)).size = out.size + (Utf8.encode (c : Int)).size := by simp
      repeat (first | refine Run.seq ?_ | refine Run.skip ?_ | refine Run.block ?_)
      refine Run.region ?_
      refine O.nextT rfl rfl hp hdec rfl ?_
      refine O.extract rfl rfl rfl ?_
      refine O.nil ?_
      try refine Run.keep [0,1,4,5,7,9,10,11,17] rfl rfl ?_
      repeat (first | refine Run.seq ?_ | refine Run.skip ?_)
      first | refine Run.condT rfl rfl ?_ | refine Run.condF rfl rfl ?_ | refine Run.condT rfl (by assumption) ?_ | refine Run.condF rfl (by assumption) ?_
      repeat (first | refine Run.seq ?_ | refine Run.skip ?_ | refine Run.block ?_)
      refine Run.region ?_
      refine O.extract rfl rfl rfl ?_
      refine O.assign rfl rfl ?_
      refine O.nil ?_
      try refine Run.keep [0,1,4,5,7,9,10,11,17] rfl rfl ?_
      repeat (first | refine Run.seq ?_ | refine Run.skip ?_ | refine Run.block ?_)
      refine Run.region ?_
      refine O.move rfl rfl ?_
      refine O.lenStr hE T9 rfl rfl rfl ?_
      first | refine O.ar rfl rfl rfl (by exact wrap_i64 (by omega) (by omega)) rfl ?_ | refine O.ar rfl rfl rfl rfl rfl ?_
      refine O.move rfl rfl ?_
      first | refine O.cmp rfl rfl rfl (by first | exact dT (by omega) | exact dF (by omega)) rfl ?_ | refine O.cmp rfl rfl rfl rfl rfl ?_
      refine O.nil ?_
      try refine Run.keep [0,1,4,5,7,9,10,11,17] rfl rfl ?_
      repeat (first | refine Run.seq ?_ | refine Run.skip ?_)
      first | refine Run.condT rfl rfl ?_ | refine Run.condF rfl rfl ?_ | refine Run.condT rfl (by assumption) ?_ | refine Run.condF rfl (by assumption) ?_
      repeat (first | refine Run.seq ?_ | refine Run.skip ?_ | refine Run.block ?_)
      refine Run.region ?_
      refine O.move rfl rfl ?_
      refine O.move rfl rfl ?_
      refine O.rune hE T21 rfl T9 rfl rfl rfl ?_
      refine O.cat rfl rfl (by omega) rfl ?_
      refine O.assign rfl rfl ?_
      refine O.nil ?_
      try refine Run.keep [0,1,4,5,7,9,10,11,17] rfl rfl ?_
      exact ih (out ++ Utf8.encode (c : Int), pos + wd) _ (by refine SLe.eqv (by repeat (first | exact TmIn.nil | refine TmIn.cons rfl ?_)) (by repeat (first | exact BxIn.nil | refine BxIn.cons rfl ?_)) rfl) ⟨by show ((out ++ Utf8.encode (c : Int)).size : Int) ≤ most; omega, hrun.add _⟩ (by show s.size - (pos + wd) < s.size - pos; omega)
  ·
    repeat (first | refine Run.seq ?_ | refine Run.skip ?_ | refine Run.block ?_)
    refine Run.region ?_
    refine O.nextF rfl rfl hp rfl ?_
    refine O.extract rfl rfl rfl ?_
    refine O.nil ?_
    try refine Run.keep [0,1,4,5,7,9,10,11,17] rfl rfl ?_
    repeat (first | refine Run.seq ?_ | refine Run.skip ?_)
    first | refine Run.condT rfl rfl ?_ | refine Run.condF rfl rfl ?_ | refine Run.condT rfl (by assumption) ?_ | refine Run.condF rfl (by assumption) ?_
    refine Run.exit ?_
    repeat (first | refine thenR_exit ?_ | refine roundR_exit ?_ | refine blockR_exit ?_ | refine blockR_pass rfl ?_)
    repeat (first | refine Run.seq ?_ | refine Run.skip ?_ | refine Run.block ?_)
    refine Run.region ?_
    refine O.move rfl rfl ?_
    refine O.assign rfl rfl ?_
    refine O.nil ?_
    try refine Run.keep [0,1,4,5,7,9,10,11,17] rfl rfl ?_
    refine Run.ret ?_
    exact ⟨_, ⟨out, ⟨hout, hrun⟩, rfl⟩, Ends.flat hE (.inr rfl) rfl rfl (AVle.of_eq rfl) rfl⟩
end Go.Proofs.YtdigejpgjnhclaaDoor.Vm
