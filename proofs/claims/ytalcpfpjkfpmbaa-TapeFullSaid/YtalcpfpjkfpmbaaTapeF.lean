/- Tapes: deeds on a disk. Conditions: none. -/
import Derived.Test.YtalcpfpjkfpmbaaTapeE
namespace Go.Proofs.Ytalcpfpjkfpmbaa.Vm
open Go Go.RowKit
set_option linter.unusedVariables false
set_option linter.unusedSimpArgs false
attribute [local irreducible] Ops Dr Run
abbrev dV (Ls : List (List Int)) (Ws : List Pt) (k : Int) : Box := .var [.pv (.lst 32 (Ls.map secE)), .pv (.lst 33 (Ws.map putE)), .pv (.int .i64 k)]
/-- A sector with so many bytes, noughts behind them. -/
def padS (b : List Int) : List Int := b ++ List.replicate (32 - b.length) 0
theorem padS_len {b : List Int} (h : b.length ≤ 32) : (padS b).length = 32 := by unfold padS; simp; omega
theorem men_args2 {bi : List (Nat × Box)} {a b : AV} (ha : men3 bi a = true) (hb : men3 bi b = true) : ∀ x ∈ [a, b], men3 bi x = true := fun x hx => by
  rcases List.mem_cons.1 hx with rfl | hx
  · exact ha
  · rw [List.mem_singleton.1 hx]; exact hb
theorem men_args3 {bi : List (Nat × Box)} {a b c : AV} (ha : men3 bi a = true) (hb : men3 bi b = true) (hc : men3 bi c = true) : ∀ x ∈ [a, b, c], men3 bi x = true := fun x hx => by
  rcases List.mem_cons.1 hx with rfl | hx
  · exact ha
  · exact men_args2 hb hc x hx
variable {g : Nat → Option (List PV)}
theorem fnWrite1 {Ls : List (List Int)} {Ws : List Pt} (h : DOk Ls Ws) (hW : Ws.length < 60) {i : Nat} (hi : i < Ls.length) {S : List Int} (hS : S.length = 32) : FnL (EnL Try.prog g [201, 202]) 25 [dskA Ls Ws, .ptr 201 0, .ptr 202 0] [(201, .var [.pv (.int .i64 (i : Int))]), (202, .var (cel S))] (.tup [dskA Ls (Ws ++ [⟨i, S⟩]), .pv (.int .i64 0)]) [(201, .var [.pv (.int .i64 (i : Int))]), (202, .var (cel S))] := by
  have hE := EnLOk g [201, 202]
  have c1 := (fnDWrite (g := g) h hW hi hS).lent [201, 202]
  refine FnL.of Try.func25 rfl rfl rfl rfl ?_
  repeat (first | refine Run.seq ?_ | refine Run.skip ?_ | refine Run.block ?_)
  refine Run.region ?_
  refine O.box 3 rfl (by first | rfl | exact cells_ones (by simp [ones_app, ones_ints, ones, AV.one, PV.one])) rfl rfl ?_
  refine O.alloc hE 4 T26 rfl rfl rfl ?_
  refine O.assign rfl rfl ?_
  refine O.nil ?_
  try refine Run.keep [0, 1, 2, 3, 4, 5] rfl rfl ?_
  repeat (first | refine Run.seq ?_ | refine Run.skip ?_ | refine Run.block ?_)
  refine Run.region ?_
  refine O.load hE T26 rfl rfl rfl rfl ?_
  first | refine O.loadS hE T3 rfl rfl rfl (by rfl) rfl ?_ | refine O.loadE hE T3 rfl rfl (by rfl) rfl ?_ | refine O.load hE T3 rfl rfl rfl rfl ?_
  refine O.loadA (q := cel S) hE T64 rfl rfl rfl (show List.take 32 (cel S) = cel S from List.take_of_length_le (by simp [hS])) (by simp [hS]) rfl ?_
  refine O.callE c1 rfl (by simp only [closed, men3, mens2, men2, mens1, mens2_pvs, mens1_pvs, men1, Bool.and_self, Bool.and_true]) rfl rfl ?_
  refine O.extract rfl rfl rfl ?_
  refine O.extract rfl rfl rfl ?_
  refine O.store hE T26 rfl rfl rfl rfl rfl rfl ?_
  refine O.assign rfl rfl ?_
  refine O.nil ?_
  try refine Run.keep [0, 1, 2, 3, 4, 5] rfl rfl ?_
  refine Run.ret ?_
  exact Ends.of hE (.inr rfl) rfl rfl (SLe.drop (by repeat (first | exact TmIn.nil | refine TmIn.cons rfl ?_)) (by repeat (first | exact BxIn.nil | refine BxIn.cons rfl ?_)) rfl (by simp only [mbx, menB, mens2, mens2_pvs, men2, men1, mens1, Bool.and_self]))
theorem fnDoS {Ls : List (List Int)} {Ws : List Pt} (h : DOk Ls Ws) {k : Int} (hk : k ≠ 0) (hk2 : -9000000000000000000 ≤ k ∧ k ≤ 9000000000000000000) : FnL (EnL Try.prog g [200]) 16 [.ptr 200 0, .clo 17 []] [(200, dV Ls Ws k)] (.pv (.bool true)) [(200, dV (fl (fun _ => true) Ls Ws Ws.length) [] (k - 1))] := by
  have hE := EnLOk g [200]
  have c1 := (fnDSync (g := g) h).lent [200]
  generalize fl (fun _ => true) Ls Ws Ws.length = X at *
  refine FnL.of Try.func16 rfl rfl rfl rfl ?_
  repeat (first | refine Run.seq ?_ | refine Run.skip ?_ | refine Run.block ?_)
  refine Run.region ?_
  refine O.assign rfl rfl ?_
  refine O.nil ?_
  try refine Run.keep [0, 1, 4, 5, 6, 11, 29] rfl rfl ?_
  repeat (first | refine Run.seq ?_ | refine Run.skip ?_ | refine Run.block ?_)
  refine Run.region ?_
  refine O.move rfl rfl ?_
  refine O.nilCheck rfl rfl ?_
  refine O.field hE L49 rfl rfl rfl rfl ?_
  first | refine O.loadS hE T3 rfl rfl rfl (by rfl) rfl ?_ | refine O.loadE hE T3 rfl rfl (by rfl) rfl ?_ | refine O.load hE T3 rfl rfl rfl rfl ?_
  first | refine O.cmp rfl rfl rfl (by first | exact decide_eq_true (by omega) | exact decide_eq_false (by omega)) rfl ?_ | refine O.cmp rfl rfl rfl rfl rfl ?_
  refine O.nil ?_
  try refine Run.keep [0, 1, 4, 5, 6, 11, 29] rfl rfl ?_
  repeat (first | refine Run.seq ?_ | refine Run.skip ?_)
  first | refine Run.condT rfl rfl ?_ | refine Run.condF rfl rfl ?_ | refine Run.condT rfl (by assumption) ?_ | refine Run.condF rfl (by assumption) ?_
  repeat (first | refine Run.seq ?_ | refine Run.skip ?_ | refine Run.block ?_)
  refine Run.region ?_
  refine O.move rfl rfl ?_
  refine O.nilCheck rfl rfl ?_
  refine O.field hE L49 rfl rfl rfl rfl ?_
  first | refine O.loadS hE T3 rfl rfl rfl (by rfl) rfl ?_ | refine O.loadE hE T3 rfl rfl (by rfl) rfl ?_ | refine O.load hE T3 rfl rfl rfl rfl ?_
  first | refine O.ar rfl rfl rfl (by exact wrap_i64 (by omega) (by omega)) rfl ?_ | refine O.ar rfl rfl rfl rfl rfl ?_
  refine O.nilCheck rfl rfl ?_
  refine O.field hE L49 rfl rfl rfl rfl ?_
  refine O.store hE T3 rfl rfl rfl rfl rfl rfl ?_
  refine O.nil ?_
  try refine Run.keep [0, 1, 4, 5, 6, 11, 29] rfl rfl ?_
  repeat (first | refine Run.seq ?_ | refine Run.skip ?_ | refine Run.block ?_)
  refine Run.region ?_
  refine O.move rfl rfl ?_
  refine O.move rfl rfl ?_
  refine O.nilCheck rfl rfl ?_
  refine O.field hE L49 rfl rfl rfl rfl ?_
  refine O.load hE T26 rfl rfl rfl rfl ?_
  refine O.callV c1 rfl rfl rfl rfl rfl ?_
  refine O.move rfl rfl ?_
  refine O.extract rfl rfl rfl ?_
  refine O.extract rfl rfl rfl ?_
  refine O.alloc hE 5 T26 rfl rfl rfl ?_
  refine O.store hE T26 rfl rfl rfl rfl rfl rfl ?_
  refine O.assign rfl rfl ?_
  refine O.nil ?_
  try refine Run.keep [0, 1, 4, 5, 6, 11, 29] rfl rfl ?_
  repeat (first | refine Run.seq ?_ | refine Run.skip ?_ | refine Run.block ?_)
  refine Run.region ?_
  refine O.move rfl rfl ?_
  first | refine O.cmp rfl rfl rfl (by first | exact decide_eq_true (by omega) | exact decide_eq_false (by omega)) rfl ?_ | refine O.cmp rfl rfl rfl rfl rfl ?_
  refine O.nil ?_
  try refine Run.keep [0, 1, 4, 5, 6, 11, 29] rfl rfl ?_
  repeat (first | refine Run.seq ?_ | refine Run.skip ?_)
  first | refine Run.condT rfl rfl ?_ | refine Run.condF rfl rfl ?_ | refine Run.condT rfl (by assumption) ?_ | refine Run.condF rfl (by assumption) ?_
  repeat (first | refine Run.seq ?_ | refine Run.skip ?_ | refine Run.block ?_)
  refine Run.region ?_
  refine O.move rfl rfl ?_
  refine O.load hE T26 rfl rfl rfl rfl ?_
  refine O.nilCheck rfl rfl ?_
  refine O.field hE L49 rfl rfl rfl rfl ?_
  refine O.store hE T26 rfl rfl rfl rfl rfl rfl ?_
  refine O.nil ?_
  try refine Run.keep [0, 1, 4, 5, 6, 11, 29] rfl rfl ?_
  repeat (first | refine Run.seq ?_ | refine Run.skip ?_ | refine Run.block ?_)
  refine Run.region ?_
  refine O.move rfl rfl ?_
  first | refine O.cmp rfl rfl rfl (by first | exact decide_eq_true (by omega) | exact decide_eq_false (by omega)) rfl ?_ | refine O.cmp rfl rfl rfl rfl rfl ?_
  refine O.assign rfl rfl ?_
  refine O.nil ?_
  try refine Run.keep [0, 1, 4, 5, 6, 11, 29] rfl rfl ?_
  refine Run.ret ?_
  exact Ends.of hE (.inr rfl) rfl rfl (SLe.drop (by repeat (first | exact TmIn.nil | refine TmIn.cons rfl ?_)) (by repeat (first | exact BxIn.nil | refine BxIn.cons rfl ?_)) rfl rfl)
theorem fnDoS0 {Ls : List (List Int)} {Ws : List Pt} : FnL (EnL Try.prog g [200]) 16 [.ptr 200 0, .clo 17 []] [(200, dV Ls Ws 0)] (.pv (.bool false)) [(200, dV Ls Ws 0)] := by
  have hE := EnLOk g [200]
  refine FnL.of Try.func16 rfl rfl rfl rfl ?_
  repeat (first | refine Run.seq ?_ | refine Run.skip ?_ | refine Run.block ?_)
  refine Run.region ?_
  refine O.assign rfl rfl ?_
  refine O.nil ?_
  try refine Run.keep [0, 1, 4, 5, 6, 11, 29] rfl rfl ?_
  repeat (first | refine Run.seq ?_ | refine Run.skip ?_ | refine Run.block ?_)
  refine Run.region ?_
  refine O.move rfl rfl ?_
  refine O.nilCheck rfl rfl ?_
  refine O.field hE L49 rfl rfl rfl rfl ?_
  first | refine O.loadS hE T3 rfl rfl rfl (by rfl) rfl ?_ | refine O.loadE hE T3 rfl rfl (by rfl) rfl ?_ | refine O.load hE T3 rfl rfl rfl rfl ?_
  first | refine O.cmp rfl rfl rfl (by first | exact decide_eq_true (by omega) | exact decide_eq_false (by omega)) rfl ?_ | refine O.cmp rfl rfl rfl rfl rfl ?_
  refine O.nil ?_
  try refine Run.keep [0, 1, 4, 5, 6, 11, 29] rfl rfl ?_
  repeat (first | refine Run.seq ?_ | refine Run.skip ?_)
  first | refine Run.condT rfl rfl ?_ | refine Run.condF rfl rfl ?_ | refine Run.condT rfl (by assumption) ?_ | refine Run.condF rfl (by assumption) ?_
  repeat (first | refine Run.seq ?_ | refine Run.skip ?_ | refine Run.block ?_)
  refine Run.region ?_
  refine O.assign rfl rfl ?_
  refine O.nil ?_
  try refine Run.keep [0, 1, 4, 5, 6, 11, 29] rfl rfl ?_
  refine Run.ret ?_
  exact Ends.of hE (.inr rfl) rfl rfl (SLe.drop (by repeat (first | exact TmIn.nil | refine TmIn.cons rfl ?_)) (by repeat (first | exact BxIn.nil | refine BxIn.cons rfl ?_)) rfl rfl)
theorem fnDoW {Ls : List (List Int)} {Ws : List Pt} (h : DOk Ls Ws) (hW : Ws.length < 60) {i : Nat} (hi : i < Ls.length) {S : List Int} (hS : S.length = 32) {k : Int} (hk : k ≠ 0) (hk2 : -9000000000000000000 ≤ k ∧ k ≤ 9000000000000000000) :
    FnL (EnL Try.prog g [200, 201, 202]) 16 [.ptr 200 0, .clo 25 [.ptr 201 0, .ptr 202 0]] [(200, dV Ls Ws k), (201, .var [.pv (.int .i64 (i : Int))]), (202, .var (cel S))] (.pv (.bool true)) [(200, dV Ls (Ws ++ [⟨i, S⟩]) (k - 1)), (201, .var [.pv (.int .i64 (i : Int))]), (202, .var (cel S))] := by
  have hE := EnLOk g [200, 201, 202]
  have c1 := fnWrite1 (g := g) h hW hi hS
  generalize hX : Ws ++ [⟨i, S⟩] = X at *
  refine FnL.of Try.func16 rfl rfl rfl rfl ?_
  repeat (first | refine Run.seq ?_ | refine Run.skip ?_ | refine Run.block ?_)
  refine Run.region ?_
  refine O.assign rfl rfl ?_
  refine O.nil ?_
  try refine Run.keep [0, 1, 4, 5, 6, 11, 29] rfl rfl ?_
  repeat (first | refine Run.seq ?_ | refine Run.skip ?_ | refine Run.block ?_)
  refine Run.region ?_
  refine O.move rfl rfl ?_
  refine O.nilCheck rfl rfl ?_
  refine O.field hE L49 rfl rfl rfl rfl ?_
  first | refine O.loadS hE T3 rfl rfl rfl (by rfl) rfl ?_ | refine O.loadE hE T3 rfl rfl (by rfl) rfl ?_ | refine O.load hE T3 rfl rfl rfl rfl ?_
  first | refine O.cmp rfl rfl rfl (by first | exact decide_eq_true (by omega) | exact decide_eq_false (by omega)) rfl ?_ | refine O.cmp rfl rfl rfl rfl rfl ?_
  refine O.nil ?_
  try refine Run.keep [0, 1, 4, 5, 6, 11, 29] rfl rfl ?_
  repeat (first | refine Run.seq ?_ | refine Run.skip ?_)
  first | refine Run.condT rfl rfl ?_ | refine Run.condF rfl rfl ?_ | refine Run.condT rfl (by assumption) ?_ | refine Run.condF rfl (by assumption) ?_
  repeat (first | refine Run.seq ?_ | refine Run.skip ?_ | refine Run.block ?_)
  refine Run.region ?_
  refine O.move rfl rfl ?_
  refine O.nilCheck rfl rfl ?_
  refine O.field hE L49 rfl rfl rfl rfl ?_
  first | refine O.loadS hE T3 rfl rfl rfl (by rfl) rfl ?_ | refine O.loadE hE T3 rfl rfl (by rfl) rfl ?_ | refine O.load hE T3 rfl rfl rfl rfl ?_
  first | refine O.ar rfl rfl rfl (by exact wrap_i64 (by omega) (by omega)) rfl ?_ | refine O.ar rfl rfl rfl rfl rfl ?_
  refine O.nilCheck rfl rfl ?_
  refine O.field hE L49 rfl rfl rfl rfl ?_
  refine O.store hE T3 rfl rfl rfl rfl rfl rfl ?_
  refine O.nil ?_
  try refine Run.keep [0, 1, 4, 5, 6, 11, 29] rfl rfl ?_
  repeat (first | refine Run.seq ?_ | refine Run.skip ?_ | refine Run.block ?_)
  refine Run.region ?_
  refine O.move rfl rfl ?_
  refine O.move rfl rfl ?_
  refine O.nilCheck rfl rfl ?_
  refine O.field hE L49 rfl rfl rfl rfl ?_
  refine O.load hE T26 rfl rfl rfl rfl ?_
  refine O.lend (bx' := [(200, dV Ls Ws (k - 1))]) (ln := [201, 202]) c1 rfl rfl rfl (.inr (men_args3 rfl rfl rfl)) (by repeat (first | exact BxIn.nil | refine BxIn.cons rfl ?_)) (by simp only [mbx, menB, mens2, mens2_pvs, men2, men1, mens1, Bool.and_self]) rfl rfl rfl rfl rfl rfl rfl rfl rfl ?_
  refine O.move rfl rfl ?_
  refine O.extract rfl rfl rfl ?_
  refine O.extract rfl rfl rfl ?_
  refine O.alloc hE 5 T26 rfl rfl rfl ?_
  refine O.store hE T26 rfl rfl rfl rfl rfl rfl ?_
  refine O.assign rfl rfl ?_
  refine O.nil ?_
  try refine Run.keep [0, 1, 4, 5, 6, 11, 29] rfl rfl ?_
  repeat (first | refine Run.seq ?_ | refine Run.skip ?_ | refine Run.block ?_)
  refine Run.region ?_
  refine O.move rfl rfl ?_
  first | refine O.cmp rfl rfl rfl (by first | exact decide_eq_true (by omega) | exact decide_eq_false (by omega)) rfl ?_ | refine O.cmp rfl rfl rfl rfl rfl ?_
  refine O.nil ?_
  try refine Run.keep [0, 1, 4, 5, 6, 11, 29] rfl rfl ?_
  repeat (first | refine Run.seq ?_ | refine Run.skip ?_)
  first | refine Run.condT rfl rfl ?_ | refine Run.condF rfl rfl ?_ | refine Run.condT rfl (by assumption) ?_ | refine Run.condF rfl (by assumption) ?_
  repeat (first | refine Run.seq ?_ | refine Run.skip ?_ | refine Run.block ?_)
  refine Run.region ?_
  refine O.move rfl rfl ?_
  refine O.load hE T26 rfl rfl rfl rfl ?_
  refine O.nilCheck rfl rfl ?_
  refine O.field hE L49 rfl rfl rfl rfl ?_
  refine O.store hE T26 rfl rfl rfl rfl rfl rfl ?_
  refine O.nil ?_
  try refine Run.keep [0, 1, 4, 5, 6, 11, 29] rfl rfl ?_
  repeat (first | refine Run.seq ?_ | refine Run.skip ?_ | refine Run.block ?_)
  refine Run.region ?_
  refine O.move rfl rfl ?_
  first | refine O.cmp rfl rfl rfl (by first | exact decide_eq_true (by omega) | exact decide_eq_false (by omega)) rfl ?_ | refine O.cmp rfl rfl rfl rfl rfl ?_
  refine O.assign rfl rfl ?_
  refine O.nil ?_
  try refine Run.keep [0, 1, 4, 5, 6, 11, 29] rfl rfl ?_
  refine Run.ret ?_
  exact Ends.of hE (.inr rfl) rfl rfl (SLe.drop (by repeat (first | exact TmIn.nil | refine TmIn.cons rfl ?_)) (by repeat (first | exact BxIn.nil | refine BxIn.cons rfl ?_)) rfl (by simp only [mbx, menB, mens2, mens2_pvs, men2, men1, mens1, Bool.and_self]))
theorem fnDoW0 {Ls : List (List Int)} {Ws : List Pt} {i : Nat} {S : List Int} :
    FnL (EnL Try.prog g [200, 201, 202]) 16 [.ptr 200 0, .clo 25 [.ptr 201 0, .ptr 202 0]] [(200, dV Ls Ws 0), (201, .var [.pv (.int .i64 (i : Int))]), (202, .var (cel S))] (.pv (.bool false)) [(200, dV Ls Ws 0), (201, .var [.pv (.int .i64 (i : Int))]), (202, .var (cel S))] := by
  have hE := EnLOk g [200, 201, 202]
  refine FnL.of Try.func16 rfl rfl rfl rfl ?_
  repeat (first | refine Run.seq ?_ | refine Run.skip ?_ | refine Run.block ?_)
  refine Run.region ?_
  refine O.assign rfl rfl ?_
  refine O.nil ?_
  try refine Run.keep [0, 1, 4, 5, 6, 11, 29] rfl rfl ?_
  repeat (first | refine Run.seq ?_ | refine Run.skip ?_ | refine Run.block ?_)
  refine Run.region ?_
  refine O.move rfl rfl ?_
  refine O.nilCheck rfl rfl ?_
  refine O.field hE L49 rfl rfl rfl rfl ?_
  first | refine O.loadS hE T3 rfl rfl rfl (by rfl) rfl ?_ | refine O.loadE hE T3 rfl rfl (by rfl) rfl ?_ | refine O.load hE T3 rfl rfl rfl rfl ?_
  first | refine O.cmp rfl rfl rfl (by first | exact decide_eq_true (by omega) | exact decide_eq_false (by omega)) rfl ?_ | refine O.cmp rfl rfl rfl rfl rfl ?_
  refine O.nil ?_
  try refine Run.keep [0, 1, 4, 5, 6, 11, 29] rfl rfl ?_
  repeat (first | refine Run.seq ?_ | refine Run.skip ?_)
  first | refine Run.condT rfl rfl ?_ | refine Run.condF rfl rfl ?_ | refine Run.condT rfl (by assumption) ?_ | refine Run.condF rfl (by assumption) ?_
  repeat (first | refine Run.seq ?_ | refine Run.skip ?_ | refine Run.block ?_)
  refine Run.region ?_
  refine O.assign rfl rfl ?_
  refine O.nil ?_
  try refine Run.keep [0, 1, 4, 5, 6, 11, 29] rfl rfl ?_
  refine Run.ret ?_
  exact Ends.of hE (.inr rfl) rfl rfl (SLe.drop (by repeat (first | exact TmIn.nil | refine TmIn.cons rfl ?_)) (by repeat (first | exact BxIn.nil | refine BxIn.cons rfl ?_)) rfl (by simp only [mbx, menB, mens2, mens2_pvs, men2, men1, mens1, Bool.and_self]))
theorem pad_set {b : List Int} (h : b.length ≤ 32) : setAt (ints .u8 (List.replicate 32 0)) 0 (ints .u8 b) = cel (padS b) := by
  unfold setAt padS
  rw [ints_len, List.take_zero, List.nil_append, Nat.zero_add]
  rw [show cel (b ++ List.replicate (32 - b.length) 0) = ints .u8 b ++ ints .u8 (List.replicate (32 - b.length) 0) by simp [ints]]
  congr 1
  unfold ints
  rw [← List.map_drop, List.drop_replicate]
theorem fnWrite {Ls : List (List Int)} {Ws : List Pt} (h : DOk Ls Ws) (hW : Ws.length < 60) {i : Nat} (hi : i < Ls.length) {b : List Int} (hb : b.length ≤ 32) {k : Int} (hk : k ≠ 0) (hk2 : -9000000000000000000 ≤ k ∧ k ≤ 9000000000000000000) :
    FnL (EnL Try.prog g [200]) 15 [.ptr 200 0, .pv (.int .i64 (i : Int)), .pv (byP b)] [(200, dV Ls Ws k)] (.pv (.bool true)) [(200, dV Ls (Ws ++ [⟨i, padS b⟩]) (k - 1))] := by
  have hE := EnLOk g [200]
  have c1 := fnDoW (g := g) h hW hi (padS_len hb) hk hk2
  have hp := pad_set hb
  have hpl := padS_len hb
  generalize Ws ++ [⟨i, padS b⟩] = X at *
  generalize padS b = S at *
  refine FnL.of Try.func15 rfl rfl rfl rfl ?_
  repeat (first | refine Run.seq ?_ | refine Run.skip ?_ | refine Run.block ?_)
  refine Run.region ?_
  refine O.box 201 rfl rfl rfl rfl ?_
  refine O.assign rfl rfl ?_
  refine O.nil ?_
  try refine Run.keep [0, 1, 2, 4, 6, 7] rfl rfl ?_
  repeat (first | refine Run.seq ?_ | refine Run.skip ?_ | refine Run.block ?_)
  refine Run.region ?_
  refine O.allocS hE 202 T64 ints_zero rfl rfl ?_
  refine O.nil ?_
  try refine Run.keep [0, 1, 2, 4, 6, 7] rfl rfl ?_
  repeat (first | refine Run.seq ?_ | refine Run.skip ?_ | refine Run.block ?_)
  refine Run.region ?_
  first | refine O.sliceE hE T64 rfl T5 rfl (by first | assumption | simp [*]) rfl rfl ?_ | refine O.sliceW hE T64 rfl T5 rfl rfl rfl ?_
  refine O.move rfl rfl ?_
  refine O.copyW (cs' := cel S) hE T32 rfl T5 rfl rfl rfl rfl newest_pv hb rfl (by simp [ints_len]; omega) hp rfl ?_
  refine O.nil ?_
  try refine Run.keep [0, 1, 2, 4, 6, 7] rfl rfl ?_
  repeat (first | refine Run.seq ?_ | refine Run.skip ?_ | refine Run.block ?_)
  refine Run.region ?_
  refine O.move rfl rfl ?_
  refine O.makeFunc rfl rfl ?_
  refine O.lend (bx' := []) (ln := [200, 201, 202]) c1 rfl rfl rfl (.inr (men_args2 rfl rfl)) (by repeat (first | exact BxIn.nil | refine BxIn.cons rfl ?_)) (by simp only [mbx, menB, mens2, mens2_pvs, men2, men1, mens1, Bool.and_self]) rfl rfl rfl rfl rfl rfl rfl rfl rfl ?_
  refine O.assign rfl rfl ?_
  refine O.nil ?_
  try refine Run.keep [0, 1, 2, 4, 6, 7] rfl rfl ?_
  refine Run.ret ?_
  exact Ends.of hE (.inr rfl) rfl rfl (SLe.drop (by repeat (first | exact TmIn.nil | refine TmIn.cons rfl ?_)) (by repeat (first | exact BxIn.nil | refine BxIn.cons rfl ?_)) rfl rfl)
theorem fnWrite0 {Ls : List (List Int)} {Ws : List Pt} {i : Nat} {b : List Int} (hb : b.length ≤ 32) :
    FnL (EnL Try.prog g [200]) 15 [.ptr 200 0, .pv (.int .i64 (i : Int)), .pv (byP b)] [(200, dV Ls Ws 0)] (.pv (.bool false)) [(200, dV Ls Ws 0)] := by
  have hE := EnLOk g [200]
  have c1 := fnDoW0 (g := g) (Ls := Ls) (Ws := Ws) (i := i) (S := padS b)
  have hp := pad_set hb
  have hpl := padS_len hb
  generalize padS b = S at *
  refine FnL.of Try.func15 rfl rfl rfl rfl ?_
  repeat (first | refine Run.seq ?_ | refine Run.skip ?_ | refine Run.block ?_)
  refine Run.region ?_
  refine O.box 201 rfl rfl rfl rfl ?_
  refine O.assign rfl rfl ?_
  refine O.nil ?_
  try refine Run.keep [0, 1, 2, 4, 6, 7] rfl rfl ?_
  repeat (first | refine Run.seq ?_ | refine Run.skip ?_ | refine Run.block ?_)
  refine Run.region ?_
  refine O.allocS hE 202 T64 ints_zero rfl rfl ?_
  refine O.nil ?_
  try refine Run.keep [0, 1, 2, 4, 6, 7] rfl rfl ?_
  repeat (first | refine Run.seq ?_ | refine Run.skip ?_ | refine Run.block ?_)
  refine Run.region ?_
  first | refine O.sliceE hE T64 rfl T5 rfl (by first | assumption | simp [*]) rfl rfl ?_ | refine O.sliceW hE T64 rfl T5 rfl rfl rfl ?_
  refine O.move rfl rfl ?_
  refine O.copyW (cs' := cel S) hE T32 rfl T5 rfl rfl rfl rfl newest_pv hb rfl (by simp [ints_len]; omega) hp rfl ?_
  refine O.nil ?_
  try refine Run.keep [0, 1, 2, 4, 6, 7] rfl rfl ?_
  repeat (first | refine Run.seq ?_ | refine Run.skip ?_ | refine Run.block ?_)
  refine Run.region ?_
  refine O.move rfl rfl ?_
  refine O.makeFunc rfl rfl ?_
  refine O.lend (bx' := []) (ln := [200, 201, 202]) c1 rfl rfl rfl (.inr (men_args2 rfl rfl)) (by repeat (first | exact BxIn.nil | refine BxIn.cons rfl ?_)) (by simp only [mbx, menB, mens2, mens2_pvs, men2, men1, mens1, Bool.and_self]) rfl rfl rfl rfl rfl rfl rfl rfl rfl ?_
  refine O.assign rfl rfl ?_
  refine O.nil ?_
  try refine Run.keep [0, 1, 2, 4, 6, 7] rfl rfl ?_
  refine Run.ret ?_
  exact Ends.of hE (.inr rfl) rfl rfl (SLe.drop (by repeat (first | exact TmIn.nil | refine TmIn.cons rfl ?_)) (by repeat (first | exact BxIn.nil | refine BxIn.cons rfl ?_)) rfl rfl)
end Go.Proofs.Ytalcpfpjkfpmbaa.Vm
