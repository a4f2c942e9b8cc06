/- The walk by reckoning: functions. Conditions: none. -/
import Derived.Test.YtdigejpgjnhclaaDoorExecC
import Derived.Test.YtdigejpgjnhclaaDoorRowV
namespace Go.Proofs.YtdigejpgjnhclaaDoor.Vm
open Go Go.RowKit
set_option linter.unusedVariables false
set_option linter.unusedSimpArgs false
def endX : Ex → Bool
  | .normal | .ret => true
  | _ => false
theorem endX_ok {x : Ex} (h : endX x = true) : x = .normal ∨ x = .ret := by
  cases x with
  | normal => exact .inl rfl
  | ret => exact .inr rfl
  | exit i => cases h
  | goto i => cases h
theorem AVles.of_eq {s : St} : ∀ {xs ys : List AV}, xs = ys → AVles s xs ys
  | [], _, rfl => .nil
  | x :: xs, _, rfl => .cons (.refl x) (AVles.of_eq rfl)
section
variable {E : Env} {n : Nat} {tm tm' : List (Nat × AV)} {bx bx' : List (Nat × Box)} {K K' : List Fr} {Φ : Ex → St → Prop} {ob : Prop}
/-- A function whose way is walked to its end. -/
theorem FnC.go {f : FuncId} {fn : Func} {c : Code} {args : List AV} {r y : AV} {tm0 : List (Nat × AV)} {x : Ex} {ys : List AV} (hE : E.Ok) (hm : E.P.follows .mixedOrders = true) (hf : E.P.funcs[f]? = some fn) (hs : List (Nat × Hint E)) (hc : fn.body = some c := by rfl) (hname : (fn.name == "runtime.NumGoroutine") = false := by rfl) (hn : Nat.ble args.length fn.ntmps = true := by rfl) (htm : params 0 args = tm0 := by rfl)
    (hx : exec E fn.ntmps hs 100000 (.code c) [] tm0 [] True = ⟨.out x, [], tm', bx', ob⟩ := by rfl)
    (hob : ob := by (repeat' (first | exact trivial | refine And.intro ?_ ?_)) <;> first | omega | rfl | (simp only [List.length_map, List.length_append, List.length_cons, List.length_nil, maxLen] at *; omega) | assumption | exact AVles.of_eq rfl | ((repeat (first | exact AVles.nil | refine AVles.cons (AVle.of_eq rfl) ?_ | refine AVles.cons (AVle.lst _ _ _ rfl) ?_ | refine AVles.cons (AVle.nil _) ?_ | refine AVles.cons (AVle.any _) ?_ | refine AVles.cons (AVle.aggs ?_) ?_)); done) | (simp [closed, men3, mens2_app, mens2_ints, mens2_pvs, mens2, men2, men1, mens1_app, mens1_ints, mens1_pvs, mens1, d2, ds1_ints, ds1_app, ds1_pvs, ds1, d1, ds0_app, ds0_ints, ds0_pvs, ds0, d0]; done) | kernel_rfl) (hxx : endX x = true := by rfl) (hy : ressO E tm' bx' fn.results.toList = some ys := by rfl) (h1 : oneO ys = some y := by rfl)
    (hle : AVle ⟨1, [(0, y)], bx'⟩ y r := by first | exact AVle.of_eq rfl | exact AVle.nil _ | (repeat (first | refine AVle.aggs ?_ | refine AVle.tups ?_ | exact AVles.nil | refine AVles.cons (AVle.of_eq rfl) ?_ | refine AVles.cons (AVle.nil _) ?_ | refine AVles.cons (AVle.lst _ _ _ rfl) ?_ | refine AVles.cons ?_ ?_))) (hr : men3 [] r = true := by rfl) (hln : E.g.ln = [] := by rfl) : FnC E f args r [] :=
  FnC.of hf hc hname hn htm ((exec_ok hE hm _ _ _ _ _ _ _ hx hob).2 (Ends.flat hE (endX_ok hxx) hy h1 hle hr)) hln
/-- A function whose walk is to be shown part by part. -/
theorem FnC.by {f : FuncId} {fn : Func} {c : Code} {args : List AV} {r : AV} {bs : List (Nat × Box)} {tm0 : List (Nat × AV)} (hf : E.P.funcs[f]? = some fn) (h : Run E.P E.g c ⟨fn.ntmps, tm0, []⟩ (unw E.P E.g [] (Ends E.P fn r bs))) (hc : fn.body = some c := by rfl) (hname : (fn.name == "runtime.NumGoroutine") = false := by rfl) (hn : Nat.ble args.length fn.ntmps = true := by rfl) (htm : params 0 args = tm0 := by rfl) (hln : E.g.ln = [] := by rfl) : FnC E f args r bs :=
  FnC.of hf hc hname hn htm h hln
/-- A function whose way is walked to its first loop. -/
theorem FnC.at {f : FuncId} {fn : Func} {c c' : Code} {args : List AV} {r : AV} {bs : List (Nat × Box)} {tm0 : List (Nat × AV)} (hE : E.Ok) (hm : E.P.follows .mixedOrders = true) (hf : E.P.funcs[f]? = some fn) (hs : List (Nat × Hint E)) (k : Run E.P E.g c' ⟨fn.ntmps, tm', bx'⟩ (unw E.P E.g K' (Ends E.P fn r bs))) (hc : fn.body = some c := by rfl) (hname : (fn.name == "runtime.NumGoroutine") = false := by rfl) (hn : Nat.ble args.length fn.ntmps = true := by rfl) (htm : params 0 args = tm0 := by rfl)
    (hx : exec E fn.ntmps hs 100000 (.code c) [] tm0 [] True = ⟨.code c', K', tm', bx', ob⟩ := by rfl) (hob : ob := by (repeat' (first | exact trivial | refine And.intro ?_ ?_)) <;> first | omega | rfl | (simp only [List.length_map, List.length_append, List.length_cons, List.length_nil, maxLen] at *; omega) | assumption | exact AVles.of_eq rfl | ((repeat (first | exact AVles.nil | refine AVles.cons (AVle.of_eq rfl) ?_ | refine AVles.cons (AVle.lst _ _ _ rfl) ?_ | refine AVles.cons (AVle.nil _) ?_ | refine AVles.cons (AVle.any _) ?_ | refine AVles.cons (AVle.aggs ?_) ?_)); done) | (simp [closed, men3, mens2_app, mens2_ints, mens2_pvs, mens2, men2, men1, mens1_app, mens1_ints, mens1_pvs, mens1, d2, ds1_ints, ds1_app, ds1_pvs, ds1, d1, ds0_app, ds0_ints, ds0_pvs, ds0, d0]; done) | kernel_rfl) (hln : E.g.ln = [] := by rfl) : FnC E f args r bs :=
  FnC.of hf hc hname hn htm ((exec_ok hE hm _ _ _ _ _ _ _ hx hob).2 k) hln
/-- A function to which boxes are lent. -/
theorem FnL.by {f : FuncId} {fn : Func} {c : Code} {args : List AV} {bi bo : List (Nat × Box)} {r : AV} {tm0 : List (Nat × AV)} (hf : E.P.funcs[f]? = some fn) (h : Run E.P E.g c ⟨fn.ntmps, tm0, bi⟩ (unw E.P E.g [] (Ends E.P fn r bo))) (hc : fn.body = some c := by rfl) (hname : (fn.name == "runtime.NumGoroutine") = false := by rfl) (hn : Nat.ble args.length fn.ntmps = true := by rfl) (htm : params 0 args = tm0 := by rfl) : FnL E f args bi r bo :=
  FnL.of hf hc hname hn htm h
/-- A function of which some result is told. -/
theorem FnL.ex {f : FuncId} {fn : Func} {c : Code} {args : List AV} {bi : List (Nat × Box)} {tm0 : List (Nat × AV)} {Q : AV → List (Nat × Box) → Prop} (hf : E.P.funcs[f]? = some fn) (h : Run E.P E.g c ⟨fn.ntmps, tm0, bi⟩ (unw E.P E.g [] (fun x s => ∃ r bo, Q r bo ∧ Ends E.P fn r bo x s))) (hc : fn.body = some c := by rfl) (hname : (fn.name == "runtime.NumGoroutine") = false := by rfl) (hn : Nat.ble args.length fn.ntmps = true := by rfl) (htm : params 0 args = tm0 := by rfl) : ∃ r bo, Q r bo ∧ FnL E f args bi r bo := by
  obtain ⟨x, s', h1, r, bo, hq, he⟩ := h
  exact ⟨r, bo, hq, FnL.of hf hc hname hn htm ⟨x, s', h1, he⟩⟩
theorem FnC.ex {f : FuncId} {fn : Func} {c : Code} {args : List AV} {tm0 : List (Nat × AV)} {Q : AV → List (Nat × Box) → Prop} (hf : E.P.funcs[f]? = some fn) (h : Run E.P E.g c ⟨fn.ntmps, tm0, []⟩ (unw E.P E.g [] (fun x s => ∃ r bo, Q r bo ∧ Ends E.P fn r bo x s))) (hc : fn.body = some c := by rfl) (hname : (fn.name == "runtime.NumGoroutine") = false := by rfl) (hn : Nat.ble args.length fn.ntmps = true := by rfl) (htm : params 0 args = tm0 := by rfl) (hln : E.g.ln = [] := by rfl) : ∃ r bo, Q r bo ∧ FnC E f args r bo := by
  obtain ⟨x, s', h1, r, bo, hq, he⟩ := h
  exact ⟨r, bo, hq, FnC.of hf hc hname hn htm ⟨x, s', h1, he⟩ hln⟩
/-- The end of a function, with boxes. -/
theorem End.of {fn : Func} {r y : AV} {bo : List (Nat × Box)} {x : Ex} {ys : List AV} (hE : E.Ok) (hle : SLe ⟨1, [(0, y)], bx⟩ ⟨1, [(0, r)], bo⟩) (hxx : endX x = true := by rfl) (hy : ressO E tm bx fn.results.toList = some ys := by rfl) (h1 : oneO ys = some y := by rfl) : unw E.P E.g [] (Ends E.P fn r bo) x ⟨n, tm, bx⟩ :=
  Ends.of hE (endX_ok hxx) hy h1 hle
theorem End.ex {Q : AV → List (Nat × Box) → Prop} {fn : Func} {r : AV} {bo : List (Nat × Box)} {x : Ex} {s : St} (hq : Q r bo) (h : unw E.P E.g [] (Ends E.P fn r bo) x s) : unw E.P E.g [] (fun x s => ∃ r bo, Q r bo ∧ Ends E.P fn r bo x s) x s := ⟨r, bo, hq, h⟩
/-- A walk as far as it comes: to code that is no region. -/
theorem Run.at {c c' : Code} (hE : E.Ok) (hm : E.P.follows .mixedOrders = true) (hs : List (Nat × Hint E)) (k : Run E.P E.g c' ⟨n, tm', bx'⟩ (unw E.P E.g K' Φ)) (hx : exec E n hs 100000 (.code c) K tm bx True = ⟨.code c', K', tm', bx', ob⟩ := by rfl) (hob : ob := by (repeat' (first | exact trivial | refine And.intro ?_ ?_)) <;> first | omega | rfl | (simp only [List.length_map, List.length_append, List.length_cons, List.length_nil, maxLen] at *; omega) | assumption | exact AVles.of_eq rfl | ((repeat (first | exact AVles.nil | refine AVles.cons (AVle.of_eq rfl) ?_ | refine AVles.cons (AVle.lst _ _ _ rfl) ?_ | refine AVles.cons (AVle.nil _) ?_ | refine AVles.cons (AVle.any _) ?_ | refine AVles.cons (AVle.aggs ?_) ?_)); done) | (simp [closed, men3, mens2_app, mens2_ints, mens2_pvs, mens2, men2, men1, mens1_app, mens1_ints, mens1_pvs, mens1, d2, ds1_ints, ds1_app, ds1_pvs, ds1, d1, ds0_app, ds0_ints, ds0_pvs, ds0, d0]; done) | kernel_rfl) : Run E.P E.g c ⟨n, tm, bx⟩ (unw E.P E.g K Φ) :=
  (exec_ok hE hm _ _ _ _ _ _ _ hx hob).2 k
/-- A walk to the end. -/
theorem Run.end {c : Code} {x : Ex} (hE : E.Ok) (hm : E.P.follows .mixedOrders = true) (hs : List (Nat × Hint E)) (k : unw E.P E.g K' Φ x ⟨n, tm', bx'⟩) (hx : exec E n hs 100000 (.code c) K tm bx True = ⟨.out x, K', tm', bx', ob⟩ := by rfl) (hob : ob := by (repeat' (first | exact trivial | refine And.intro ?_ ?_)) <;> first | omega | rfl | (simp only [List.length_map, List.length_append, List.length_cons, List.length_nil, maxLen] at *; omega) | assumption | exact AVles.of_eq rfl | ((repeat (first | exact AVles.nil | refine AVles.cons (AVle.of_eq rfl) ?_ | refine AVles.cons (AVle.lst _ _ _ rfl) ?_ | refine AVles.cons (AVle.nil _) ?_ | refine AVles.cons (AVle.any _) ?_ | refine AVles.cons (AVle.aggs ?_) ?_)); done) | (simp [closed, men3, mens2_app, mens2_ints, mens2_pvs, mens2, men2, men1, mens1_app, mens1_ints, mens1_pvs, mens1, d2, ds1_ints, ds1_app, ds1_pvs, ds1, d1, ds0_app, ds0_ints, ds0_pvs, ds0, d0]; done) | kernel_rfl) : Run E.P E.g c ⟨n, tm, bx⟩ (unw E.P E.g K Φ) :=
  (exec_ok hE hm _ _ _ _ _ _ _ hx hob).2 k
/-- The end of a function. -/
theorem End.go {fn : Func} {r y : AV} {x : Ex} {ys : List AV} (hE : E.Ok) (hxx : endX x = true := by rfl) (hy : ressO E tm bx fn.results.toList = some ys := by rfl) (h1 : oneO ys = some y := by rfl)
    (hle : AVle ⟨1, [(0, y)], bx⟩ y r := by first | exact AVle.of_eq rfl | exact AVle.nil _ | (repeat (first | refine AVle.aggs ?_ | refine AVle.tups ?_ | exact AVles.nil | refine AVles.cons (AVle.of_eq rfl) ?_ | refine AVles.cons (AVle.nil _) ?_ | refine AVles.cons (AVle.lst _ _ _ rfl) ?_ | refine AVles.cons ?_ ?_))) (hr : men3 [] r = true := by rfl) : unw E.P E.g [] (Ends E.P fn r []) x ⟨n, tm, bx⟩ :=
  Ends.flat hE (endX_ok hxx) hy h1 hle hr
/-- A state that says less. -/
theorem SLe.to (ht : TmIn tm tm' := by (repeat (first | exact TmIn.nil | refine TmIn.cons rfl ?_))) (hb : BxIn bx bx' := by (repeat (first | exact BxIn.nil | refine BxIn.cons rfl ?_))) (hm : mtm bx' tm' = true := by rfl) (hmb : mbx bx' bx' = true := by rfl) : SLe ⟨n, tm, bx⟩ ⟨n, tm', bx'⟩ := SLe.drop ht hb hm hmb
/-- A loop by an invariant. -/
theorem Run.inv {c : Code} {s : St} {ι : Type} (Inv : ι → Prop) (S : ι → St) (μ : ι → Nat) (i : ι) (h0 : Inv i) (hs : SLe s (S i))
    (round : ∀ i, Inv i → (∀ j s', SLe s' (S j) → Inv j → μ j < μ i → unw E.P E.g (.rnd c :: K) Φ .normal s') → Run E.P E.g c (S i) (unw E.P E.g (.rnd c :: K) Φ)) : Run E.P E.g (.loop c) s (unw E.P E.g K Φ) :=
  Run.loopInv Inv S μ i h0 hs round
end
end Go.Proofs.YtdigejpgjnhclaaDoor.Vm
