/- Streams of bytes, checked, added to and ended. Conditions: the table of steps has 64 words. -/
import Derived.Test.YtcbdhdblchmofaaDoorShaX
import Derived.Test.YtcbdhdblchmofaaDoorShaK
import Derived.Test.YtcbdhdblchmofaaDoorVmX
namespace Go.Proofs.YtcbdhdblchmofaaDoor.Vm
open Go Go.RowKit
set_option linter.unusedVariables false
set_option linter.unusedSimpArgs false
attribute [local irreducible] Ops Dr Run feedP endP
variable {g : Nat → Option (List PV)}
theorem stB {H B : List Int} {N L : Int} {j : Nat} (hH : H.length = 8) (hB : B.length = 64) (hj : j < 64) : (strm H B N L)[0 + 8 + j]? = some (.pv (.int .u8 (B.getD j 0))) := by
  unfold strm
  rw [List.getElem?_append_right (by rw [ints_len, hH]; omega), ints_len, hH, show 0 + 8 + j - 8 = j by omega, List.getElem?_append_left (by rw [ints_len, hB]; exact hj), ints_at (by omega)]
/-- A stream that may be. -/
def Sm.fit (s : Sm) : Prop := s.ok ∧ 0 ≤ s.L ∧ s.L ≤ 1152921504606846976 ∧ s.N = s.L % 64 ∧ ∀ j : Nat, s.N ≤ (j : Int) → j < 64 → s.B.getD j 0 = 0
theorem fnCheck {s : Sm} (hs : s.fit) : FnC (En Tryd.prog g) 46 [smA s] (.pv (.int .i64 0)) [] := by
  have hE := EnOk g
  obtain ⟨H, B, N, L⟩ := s
  obtain ⟨⟨hH, hB, hN0, hN1⟩, hL0, hL1, hN, hz⟩ := hs
  dsimp only at hH hB hN0 hN1 hL0 hL1 hN hz
  show FnC (En Tryd.prog g) 46 [.agg (strm H B N L)] (.pv (.int .i64 0)) []
  refine FnC.of Tryd.func46 rfl rfl rfl rfl ?_
  repeat (first | refine Run.seq ?_ | refine Run.skip ?_ | refine Run.block ?_)
  refine Run.region ?_
  refine O.box 1 rfl (by first | rfl | exact cells_ones (by simp [ones_app, ones_ints, ones, AV.one, PV.one])) rfl rfl ?_
  refine O.assign rfl rfl ?_
  refine O.nil ?_
  try refine Run.keep [0, 1, 2, 3, 19, 23, 30] rfl rfl ?_
  repeat (first | refine Run.seq ?_ | refine Run.skip ?_ | refine Run.block ?_)
  refine Run.region ?_
  refine O.field hE L39 rfl rfl rfl rfl ?_
  first | refine O.loadS hE T3 rfl rfl rfl (by first | exact st73 (by assumption) (by assumption) | exact st72 (by assumption) (by assumption) | exact stB (by assumption) (by assumption) (by omega)) rfl ?_ | refine O.loadE hE T3 rfl rfl (by rfl) rfl ?_ | refine O.load hE T3 rfl rfl rfl rfl ?_
  first | refine O.cmp rfl rfl rfl (by first | exact decide_eq_true (by omega) | exact decide_eq_false (by omega)) rfl ?_ | refine O.cmp rfl rfl rfl rfl rfl ?_
  refine O.move rfl rfl ?_
  first | (refine O.yes rfl rfl (by first | rfl | assumption) ?_; refine O.field hE L39 rfl rfl rfl rfl ?_) | refine O.no rfl rfl rfl rfl ?_
  first | (refine O.yes rfl rfl (by first | rfl | assumption) ?_; first | refine O.loadS hE T3 rfl rfl rfl (by first | exact st73 (by assumption) (by assumption) | exact st72 (by assumption) (by assumption) | exact stB (by assumption) (by assumption) (by omega)) rfl ?_ | refine O.loadE hE T3 rfl rfl (by rfl) rfl ?_ | refine O.load hE T3 rfl rfl rfl rfl ?_) | refine O.no rfl rfl rfl rfl ?_
  first | (refine O.yes rfl rfl (by first | rfl | assumption) ?_; first | refine O.cmp rfl rfl rfl (by first | exact decide_eq_true (by omega) | exact decide_eq_false (by omega)) rfl ?_ | refine O.cmp rfl rfl rfl rfl rfl ?_) | refine O.no rfl rfl rfl rfl ?_
  refine O.pick rfl rfl rfl rfl rfl ?_
  refine O.move rfl rfl ?_
  first | (refine O.yes rfl rfl (by first | rfl | assumption) ?_; refine O.field hE L39 rfl rfl rfl rfl ?_) | refine O.no rfl rfl rfl rfl ?_
  first | (refine O.yes rfl rfl (by first | rfl | assumption) ?_; first | refine O.loadS hE T3 rfl rfl rfl (by first | exact st73 (by assumption) (by assumption) | exact st72 (by assumption) (by assumption) | exact stB (by assumption) (by assumption) (by omega)) rfl ?_ | refine O.loadE hE T3 rfl rfl (by rfl) rfl ?_ | refine O.load hE T3 rfl rfl rfl rfl ?_) | refine O.no rfl rfl rfl rfl ?_
  first | (refine O.yes rfl rfl (by first | rfl | assumption) ?_; refine O.field hE L39 rfl rfl rfl rfl ?_) | refine O.no rfl rfl rfl rfl ?_
  first | (refine O.yes rfl rfl (by first | rfl | assumption) ?_; first | refine O.loadS hE T3 rfl rfl rfl (by first | exact st73 (by assumption) (by assumption) | exact st72 (by assumption) (by assumption) | exact stB (by assumption) (by assumption) (by omega)) rfl ?_ | refine O.loadE hE T3 rfl rfl (by rfl) rfl ?_ | refine O.load hE T3 rfl rfl rfl rfl ?_) | refine O.no rfl rfl rfl rfl ?_
  first | (refine O.yes rfl rfl (by first | rfl | assumption) ?_; first | refine O.remE rfl rfl (by omega) (by omega) rfl ?_ | refine O.rem rfl rfl (by omega) rfl ?_) | refine O.no rfl rfl rfl rfl ?_
  first | (refine O.yes rfl rfl (by first | rfl | assumption) ?_; first | refine O.cmp rfl rfl rfl (by first | exact decide_eq_true (by omega) | exact decide_eq_false (by omega)) rfl ?_ | refine O.cmp rfl rfl rfl rfl rfl ?_) | refine O.no rfl rfl rfl rfl ?_
  refine O.pick rfl rfl rfl rfl rfl ?_
  refine O.nil ?_
  try refine Run.keep [0, 1, 2, 3, 19, 23, 30] rfl rfl ?_
  repeat (first | refine Run.seq ?_ | refine Run.skip ?_)
  first | refine Run.condT rfl rfl ?_ | refine Run.condF rfl rfl ?_ | refine Run.condT rfl (by assumption) ?_ | refine Run.condF rfl (by assumption) ?_
  repeat (first | refine Run.seq ?_ | refine Run.skip ?_ | refine Run.block ?_)
  refine Run.region ?_
  refine O.field hE L39 rfl rfl rfl rfl ?_
  first | refine O.loadS hE T3 rfl rfl rfl (by first | exact st73 (by assumption) (by assumption) | exact st72 (by assumption) (by assumption) | exact stB (by assumption) (by assumption) (by omega)) rfl ?_ | refine O.loadE hE T3 rfl rfl (by rfl) rfl ?_ | refine O.load hE T3 rfl rfl rfl rfl ?_
  refine O.assign rfl rfl ?_
  refine O.nil ?_
  try refine Run.keep [0, 1, 2, 3, 19, 23, 30] rfl rfl ?_
  repeat (first | refine Run.seq ?_ | refine Run.skip ?_)
  refine Run.block ?_
  refine Run.loopInv (ι := Int) (fun i => N ≤ i ∧ i ≤ 64) (fun i => ⟨31, [(1, .ptr 1 0), (2, .pv (.int .i64 0)), (3, .pv (.int .i64 i))], [(1, .var (strm H B N L))]⟩) (fun i => (64 - i).toNat) N ⟨by omega, by omega⟩ ?_ ?_
  ·
    refine SLe.eqv (by repeat (first | exact TmIn.nil | refine TmIn.cons rfl ?_)) (by repeat (first | exact BxIn.nil | refine BxIn.cons rfl ?_)) rfl
  rintro i ⟨h0, h1⟩ ih
  by_cases hi : i < 64
  ·
    have hzi := hz i.toNat (by omega) (by omega)
    repeat (first | refine Run.seq ?_ | refine Run.skip ?_ | refine Run.block ?_)
    refine Run.region ?_
    refine O.move rfl rfl ?_
    first | refine O.cmp rfl rfl rfl (by first | exact decide_eq_true (by omega) | exact decide_eq_false (by omega)) rfl ?_ | refine O.cmp rfl rfl rfl rfl rfl ?_
    refine O.nil ?_
    try refine Run.keep [0, 1, 2, 3, 19, 23, 30] rfl rfl ?_
    repeat (first | refine Run.seq ?_ | refine Run.skip ?_)
    first | refine Run.condT rfl rfl ?_ | refine Run.condF rfl rfl ?_ | refine Run.condT rfl (by assumption) ?_ | refine Run.condF rfl (by assumption) ?_
    repeat (first | refine Run.seq ?_ | refine Run.skip ?_ | refine Run.block ?_)
    refine Run.region ?_
    refine O.move rfl rfl ?_
    refine O.field hE L39 rfl rfl rfl rfl ?_
    first | refine O.ixS hE T37 rfl T5 rfl rfl rfl (by omega) (by omega) rfl ?_ | refine O.ixE hE T37 rfl T5 rfl (glo_ev (by assumption)) rfl (by omega) (by omega) rfl ?_
    first | refine O.loadS hE T5 rfl rfl rfl (by first | exact st73 (by assumption) (by assumption) | exact st72 (by assumption) (by assumption) | exact stB (by assumption) (by assumption) (by omega)) rfl ?_ | refine O.loadE hE T5 rfl rfl (by rfl) rfl ?_ | refine O.load hE T5 rfl rfl rfl rfl ?_
    first | refine O.cmp rfl rfl rfl (by first | exact decide_eq_true (by omega) | exact decide_eq_false (by omega)) rfl ?_ | refine O.cmp rfl rfl rfl rfl rfl ?_
    refine O.nil ?_
    try refine Run.keep [0, 1, 2, 3, 19, 23, 30] rfl rfl ?_
    repeat (first | refine Run.seq ?_ | refine Run.skip ?_)
    first | refine Run.condT rfl rfl ?_ | refine Run.condF rfl rfl ?_ | refine Run.condT rfl (by assumption) ?_ | refine Run.condF rfl (by assumption) ?_
    repeat (first | refine Run.seq ?_ | refine Run.skip ?_ | refine Run.block ?_)
    refine Run.region ?_
    refine O.move rfl rfl ?_
    first | refine O.ar rfl rfl rfl (by exact wrap_i64 (by omega) (by omega)) rfl ?_ | refine O.ar rfl rfl rfl rfl rfl ?_
    refine O.assign rfl rfl ?_
    refine O.nil ?_
    try refine Run.keep [0, 1, 2, 3, 19, 23, 30] rfl rfl ?_
    exact ih (i + 1) _ (by refine SLe.eqv (by repeat (first | exact TmIn.nil | refine TmIn.cons rfl ?_)) (by repeat (first | exact BxIn.nil | refine BxIn.cons rfl ?_)) rfl) ⟨by omega, by omega⟩ (by omega)
  ·
    repeat (first | refine Run.seq ?_ | refine Run.skip ?_ | refine Run.block ?_)
    refine Run.region ?_
    refine O.move rfl rfl ?_
    first | refine O.cmp rfl rfl rfl (by first | exact decide_eq_true (by omega) | exact decide_eq_false (by omega)) rfl ?_ | refine O.cmp rfl rfl rfl rfl rfl ?_
    refine O.nil ?_
    try refine Run.keep [0, 1, 2, 3, 19, 23, 30] rfl rfl ?_
    repeat (first | refine Run.seq ?_ | refine Run.skip ?_)
    first | refine Run.condT rfl rfl ?_ | refine Run.condF rfl rfl ?_ | refine Run.condT rfl (by assumption) ?_ | refine Run.condF rfl (by assumption) ?_
    refine Run.exit ?_
    repeat (first | refine thenR_exit ?_ | refine roundR_exit ?_ | refine blockR_exit ?_ | refine blockR_pass rfl ?_)
    repeat (first | refine Run.seq ?_ | refine Run.skip ?_ | refine Run.block ?_)
    refine Run.region ?_
    refine O.assign rfl rfl ?_
    refine O.nil ?_
    try refine Run.keep [0, 1, 2, 3, 19, 23, 30] rfl rfl ?_
    (repeat (first | refine Run.seq ?_ | refine Run.skip ?_)); (try refine Run.ret ?_); first | exact Ends.flat hE (.inr rfl) rfl rfl (AVle.of_eq rfl) rfl | exact Ends.flat hE (.inl rfl) rfl rfl (AVle.of_eq rfl) rfl
section
variable {T : List Int → List Int → List Int}
theorem feed1_fit (hT : ∀ H B : List Int, H.length = 8 → B.length = 64 → (T H B).length = 8) {s : Sm} {M : Int} (h : s.ok) (hN : s.N = M % 64) (hz : ∀ j : Nat, s.N ≤ (j : Int) → j < 64 → s.B.getD j 0 = 0) (c : Int) :
    (feed1 T s c).ok ∧ (feed1 T s c).N = (M + 1) % 64 ∧ ∀ j : Nat, (feed1 T s c).N ≤ (j : Int) → j < 64 → (feed1 T s c).B.getD j 0 = 0 := by
  refine ⟨feed1_ok hT h c, ?_, ?_⟩
  · unfold feed1
    split
    · dsimp only; omega
    · obtain ⟨_, _, h3, h4⟩ := h
      dsimp only
      omega
  · obtain ⟨h1, h2, h3, h4⟩ := h
    unfold feed1
    split
    · intro j _ hj
      dsimp only
      simp only [List.getD_eq_getElem?_getD, List.getElem?_replicate, hj, if_true, Option.getD_some]
    · intro j hj hj2
      dsimp only at hj ⊢
      have hne : s.N.toNat ≠ j := by omega
      simp only [List.getD_eq_getElem?_getD, List.getElem?_set, hne, if_false]
      rw [← List.getD_eq_getElem?_getD]
      exact hz j (by omega) hj2
theorem fold_fit (hT : ∀ H B : List Int, H.length = 8 → B.length = 64 → (T H B).length = 8) : ∀ (b : List Int) (s : Sm) (M : Int), s.ok → s.N = M % 64 → (∀ j : Nat, s.N ≤ (j : Int) → j < 64 → s.B.getD j 0 = 0) →
    (b.foldl (feed1 T) s).N = (M + b.length) % 64 ∧ ∀ j : Nat, (b.foldl (feed1 T) s).N ≤ (j : Int) → j < 64 → (b.foldl (feed1 T) s).B.getD j 0 = 0
  | [], s, M, h, hN, hz => ⟨by simpa using hN, hz⟩
  | c :: b, s, M, h, hN, hz => by
    obtain ⟨e1, e2, e3⟩ := feed1_fit hT h hN hz c
    obtain ⟨f1, f2⟩ := fold_fit hT b (feed1 T s c) (M + 1) e1 e2 e3
    refine ⟨?_, f2⟩
    rw [List.foldl_cons, f1, List.length_cons]
    congr 1
    omega
theorem feedP_def (s : Sm) (b : List Int) : feedP T s b = b.foldl (feed1 T) ⟨s.H, s.B, s.N, s.L + b.length⟩ := by unfold feedP; rfl
theorem feedP_fit (hT : ∀ H B : List Int, H.length = 8 → B.length = 64 → (T H B).length = 8) {s : Sm} (h : s.fit) {b : List Int} (hb : s.L + b.length ≤ 1152921504606846976) : (feedP T s b).fit ∧ (feedP T s b).L = s.L + b.length := by
  obtain ⟨h1, h2, h3, h4, h5⟩ := h
  obtain ⟨e1, e2⟩ := feedP_ok hT h1 b
  obtain ⟨f1, f2⟩ := fold_fit hT b ⟨s.H, s.B, s.N, s.L + b.length⟩ s.L h1 h4 h5
  rw [← feedP_def] at f1 f2
  exact ⟨⟨e1, by omega, by omega, by rw [f1, e2], f2⟩, e2⟩
def withL (s : Sm) (x : Int) : Sm := ⟨s.H, s.B, s.N, x⟩
theorem feed1_withL (s : Sm) (x c : Int) : feed1 T (withL s x) c = withL (feed1 T s c) x := by
  unfold feed1 withL
  dsimp only
  split <;> rfl
theorem fold_withL (x : Int) : ∀ (b : List Int) (s : Sm), b.foldl (feed1 T) (withL s x) = withL (b.foldl (feed1 T) s) x
  | [], s => rfl
  | c :: b, s => by rw [List.foldl_cons, List.foldl_cons, feed1_withL, fold_withL x b]
theorem feedP_app (s : Sm) (a b : List Int) : feedP T (feedP T s a) b = feedP T s (a ++ b) := by
  have hL : ∀ (l : List Int) (s : Sm), (l.foldl (feed1 T) s).L = s.L := by
    intro l
    induction l with
    | nil => intro s; rfl
    | cons c l ih => intro s; rw [List.foldl_cons, ih, feed1_L]
  rw [feedP_def (feedP T s a), feedP_def s (a ++ b), List.foldl_append]
  have e1 : (feedP T s a).L = s.L + a.length := by rw [feedP_def, hL]
  have e2 : (⟨(feedP T s a).H, (feedP T s a).B, (feedP T s a).N, (feedP T s a).L + b.length⟩ : Sm) = withL (a.foldl (feed1 T) ⟨s.H, s.B, s.N, s.L + a.length⟩) (s.L + (a ++ b).length) := by
    rw [e1, ← feedP_def]
    unfold withL
    congr 1
    rw [List.length_append]
    omega
  rw [e2]
  have e3 : a.foldl (feed1 T) ⟨s.H, s.B, s.N, s.L + (a ++ b).length⟩ = withL (a.foldl (feed1 T) ⟨s.H, s.B, s.N, s.L + a.length⟩) (s.L + (a ++ b).length) := by
    rw [← fold_withL]
    rfl
  rw [e3]
theorem begin_fit : begin0.fit := ⟨begin_ok, by decide, by decide, by decide, fun j _ hj => by
  show (List.replicate 64 (0 : Int)).getD j 0 = 0
  simp only [List.getD_eq_getElem?_getD, List.getElem?_replicate, hj, if_true, Option.getD_some]⟩
theorem fnAdd (hT : Feeds g T) {s : Sm} (hs : s.fit) {b : List Int} (hb : s.L + b.length ≤ 1152921504606846976) : FnC (En Tryd.prog g) 19 [smA s, .pv (bys b)] (.tup [smA (feedP T s b), .pv (.int .i64 0)]) [] := by
  have hE := EnOk g
  have c1 := fnCheck (g := g) hs
  obtain ⟨⟨f1, f2, f3, f4, f5⟩, f6⟩ := feedP_fit hT.1 hs hb
  obtain ⟨h1, h2, h3, h4, h5⟩ := hs
  have c2 := hT.2 s b h1 h2 (by omega)
  obtain ⟨H, B, N, L⟩ := s
  obtain ⟨hH, hB, hN0, hN1⟩ := h1
  dsimp only at hH hB hN0 hN1 h2 h3 hb
  generalize feedP T ⟨H, B, N, L⟩ b = r at *
  obtain ⟨H', B', N', L'⟩ := r
  obtain ⟨gH, gB, gN0, gN1⟩ := f1
  dsimp only at gH gB
  have c1 : FnC (En Tryd.prog g) 46 [.agg (strm H B N L)] (.pv (.int .i64 0)) [] := c1
  have c2 : FnC (En Tryd.prog g) 43 [.agg (strm H B N L), .pv (bys b)] (.agg (strm H' B' N' L')) [] := c2
  have hlen : (b.map (PV.int .u8)).length = b.length := by simp
  show FnC (En Tryd.prog g) 19 [.agg (strm H B N L), .pv (bys b)] (.tup [.agg (strm H' B' N' L'), .pv (.int .i64 0)]) []
  obtain ⟨Z, hZl, hZ⟩ : ∃ Z : List AV, Z.length = 74 ∧ (TI.zero ((tyL 39).getD ⟨.oth, 0, 0, []⟩)).map AV.pv = Z := ⟨_, rfl, rfl⟩
  refine FnC.of Tryd.func19 rfl rfl rfl rfl ?_
  repeat (first | refine Run.seq ?_ | refine Run.skip ?_ | refine Run.block ?_)
  refine Run.region ?_
  refine O.box 2 rfl (by first | rfl | exact cells_ones (by simp [ones_app, ones_ints, ones, AV.one, PV.one])) rfl rfl ?_
  refine O.allocS hE 4 T39 hZ rfl rfl ?_
  refine O.assign rfl rfl ?_
  refine O.nil ?_
  try refine Run.keep [0, 1, 2, 4, 5, 6, 10, 18] rfl rfl ?_
  repeat (first | refine Run.seq ?_ | refine Run.skip ?_ | refine Run.block ?_)
  refine Run.region ?_
  first | refine O.loadA hE T39 rfl rfl rfl (by first | exact tkS (by assumption) (by assumption) | exact ints_take (by simp [*])) (by simp [ints_len, *]) rfl ?_ | refine O.load hE T39 rfl rfl rfl rfl ?_
  refine O.callE c1 rfl (by first | rfl | simp [closed, men3, mens2_app, mens2_ints, mens2, men2, men1, mens1_app, mens1_ints, mens1]) (by first | rfl | simp [d2, ds1_ints, ds1_app, ds1, d1, ds0_app, ds0_ints, ds0, d0]) rfl ?_
  refine O.assign rfl rfl ?_
  refine O.nil ?_
  try refine Run.keep [0, 1, 2, 4, 5, 6, 10, 18] rfl rfl ?_
  repeat (first | refine Run.seq ?_ | refine Run.skip ?_ | refine Run.block ?_)
  refine Run.region ?_
  refine O.move rfl rfl ?_
  first | refine O.cmp rfl rfl rfl (by first | exact decide_eq_true (by omega) | exact decide_eq_false (by omega)) rfl ?_ | refine O.cmp rfl rfl rfl rfl rfl ?_
  refine O.nil ?_
  try refine Run.keep [0, 1, 2, 4, 5, 6, 10, 18] rfl rfl ?_
  repeat (first | refine Run.seq ?_ | refine Run.skip ?_)
  first | refine Run.condT rfl rfl ?_ | refine Run.condF rfl rfl ?_ | refine Run.condT rfl (by assumption) ?_ | refine Run.condF rfl (by assumption) ?_
  repeat (first | refine Run.seq ?_ | refine Run.skip ?_ | refine Run.block ?_)
  refine Run.region ?_
  refine O.move rfl rfl ?_
  first | refine O.lenN hE T27 rfl rfl rfl (by first | exact newest_pv | exact newest_gl rfl rfl | trivial) lenC rfl ?_ | refine O.lenLst hE T27 rfl rfl rfl (by first | exact newest_pv | exact newest_gl rfl rfl | trivial) rfl ?_
  refine O.field hE L39 rfl rfl rfl rfl ?_
  first | refine O.loadS hE T3 rfl rfl rfl (by first | exact st73 (by assumption) (by assumption) | exact st72 (by assumption) (by assumption) | exact stB (by assumption) (by assumption) (by omega)) rfl ?_ | refine O.loadE hE T3 rfl rfl (by rfl) rfl ?_ | refine O.load hE T3 rfl rfl rfl rfl ?_
  first | refine O.ar rfl rfl rfl (by exact wrap_i64 (by omega) (by omega)) rfl ?_ | refine O.ar rfl rfl rfl rfl rfl ?_
  first | refine O.cmp rfl rfl rfl (by first | exact decide_eq_true (by omega) | exact decide_eq_false (by omega)) rfl ?_ | refine O.cmp rfl rfl rfl rfl rfl ?_
  refine O.nil ?_
  try refine Run.keep [0, 1, 2, 4, 5, 6, 10, 18] rfl rfl ?_
  repeat (first | refine Run.seq ?_ | refine Run.skip ?_)
  first | refine Run.condT rfl rfl ?_ | refine Run.condF rfl rfl ?_ | refine Run.condT rfl (by assumption) ?_ | refine Run.condF rfl (by assumption) ?_
  repeat (first | refine Run.seq ?_ | refine Run.skip ?_ | refine Run.block ?_)
  refine Run.region ?_
  first | refine O.loadA hE T39 rfl rfl rfl (by first | exact tkS (by assumption) (by assumption) | exact ints_take (by simp [*])) (by simp [ints_len, *]) rfl ?_ | refine O.load hE T39 rfl rfl rfl rfl ?_
  refine O.move rfl rfl ?_
  refine O.callE c2 rfl (by first | rfl | simp [closed, men3, mens2_app, mens2_ints, mens2, men2, men1, mens1_app, mens1_ints, mens1]) (by first | rfl | simp [d2, ds1_ints, ds1_app, ds1, d1, ds0_app, ds0_ints, ds0, d0]) rfl ?_
  first | refine O.storeS hE T39 rfl rfl (by first | rfl | exact cells_ones (by simp [ones_app, ones_ints, ones, AV.one, PV.one])) rfl (by first | rfl | simp [ints_len, *]) (by simp [ints_len, *] <;> omega) (by first | exact setAt_all _ _ (by simp [ints_len, *]) | exact setAt_all _ _ (by unfold strm; simp [ints_len, *])) ?_ | refine O.store hE T39 rfl rfl rfl rfl rfl rfl ?_
  refine O.assign rfl rfl ?_
  refine O.nil ?_
  try refine Run.keep [0, 1, 2, 4, 5, 6, 10, 18] rfl rfl ?_
  refine Run.ret ?_
  exact Ends.ex hE (.inr rfl) (ys := [.agg (strm H' B' N' L'), .pv (.int .i64 0)]) (.cell rfl rfl T39 rfl (by simp [ints_len, gH, gB]) (.tmp rfl .nil)) rfl (by simp [men3, mens2_app, mens2_ints, mens2, men2, men1, mens1_app, mens1_ints, mens1])
theorem fnEndS (hT : Feeds g T) {s : Sm} (hs : s.fit) : FnC (En Tryd.prog g) 20 [smA s] (.tup [.agg (ints .u8 (endP T s)), .pv (.int .i64 0)]) [] := by
  have hE := EnOk g
  have c1 := fnCheck (g := g) hs
  obtain ⟨h1, h2, h3, h4, h5⟩ := hs
  have c2 := fnEnd hT h1 h2 (by omega)
  have hl : (endP T s).length = 32 := endP_len s
  obtain ⟨H, B, N, L⟩ := s
  obtain ⟨hH, hB, hN0, hN1⟩ := h1
  dsimp only at hH hB
  generalize endP T ⟨H, B, N, L⟩ = R at *
  have c1 : FnC (En Tryd.prog g) 46 [.agg (strm H B N L)] (.pv (.int .i64 0)) [] := c1
  have c2 : FnC (En Tryd.prog g) 42 [.agg (strm H B N L)] (.agg (ints .u8 R)) [] := c2
  show FnC (En Tryd.prog g) 20 [.agg (strm H B N L)] (.tup [.agg (ints .u8 R), .pv (.int .i64 0)]) []
  refine FnC.of Tryd.func20 rfl rfl rfl rfl ?_
  repeat (first | refine Run.seq ?_ | refine Run.skip ?_ | refine Run.block ?_)
  refine Run.region ?_
  refine O.box 1 rfl (by first | rfl | exact cells_ones (by simp [ones_app, ones_ints, ones, AV.one, PV.one])) rfl rfl ?_
  first | refine O.allocS hE 2 T25 ints_zero rfl rfl ?_ | refine O.alloc hE 2 T25 rfl rfl rfl ?_
  refine O.assign rfl rfl ?_
  refine O.nil ?_
  try refine Run.keep [0, 1, 2, 3, 4, 8] rfl rfl ?_
  repeat (first | refine Run.seq ?_ | refine Run.skip ?_ | refine Run.block ?_)
  refine Run.region ?_
  first | refine O.loadA hE T39 rfl rfl rfl (by first | exact tkS (by assumption) (by assumption) | exact ints_take (by simp [*])) (by simp [ints_len, *]) rfl ?_ | refine O.load hE T39 rfl rfl rfl rfl ?_
  refine O.callE c1 rfl (by first | rfl | simp [closed, men3, mens2_app, mens2_ints, mens2, men2, men1, mens1_app, mens1_ints, mens1]) (by first | rfl | simp [d2, ds1_ints, ds1_app, ds1, d1, ds0_app, ds0_ints, ds0, d0]) rfl ?_
  refine O.assign rfl rfl ?_
  refine O.nil ?_
  try refine Run.keep [0, 1, 2, 3, 4, 8] rfl rfl ?_
  repeat (first | refine Run.seq ?_ | refine Run.skip ?_ | refine Run.block ?_)
  refine Run.region ?_
  refine O.move rfl rfl ?_
  first | refine O.cmp rfl rfl rfl (by first | exact decide_eq_true (by omega) | exact decide_eq_false (by omega)) rfl ?_ | refine O.cmp rfl rfl rfl rfl rfl ?_
  refine O.nil ?_
  try refine Run.keep [0, 1, 2, 3, 4, 8] rfl rfl ?_
  repeat (first | refine Run.seq ?_ | refine Run.skip ?_)
  first | refine Run.condT rfl rfl ?_ | refine Run.condF rfl rfl ?_ | refine Run.condT rfl (by assumption) ?_ | refine Run.condF rfl (by assumption) ?_
  repeat (first | refine Run.seq ?_ | refine Run.skip ?_ | refine Run.block ?_)
  refine Run.region ?_
  first | refine O.loadA hE T39 rfl rfl rfl (by first | exact tkS (by assumption) (by assumption) | exact ints_take (by simp [*])) (by simp [ints_len, *]) rfl ?_ | refine O.load hE T39 rfl rfl rfl rfl ?_
  refine O.callE c2 rfl (by first | rfl | simp [closed, men3, mens2_app, mens2_ints, mens2, men2, men1, mens1_app, mens1_ints, mens1]) (by first | rfl | simp [d2, ds1_ints, ds1_app, ds1, d1, ds0_app, ds0_ints, ds0, d0]) rfl ?_
  first | refine O.storeS hE T25 rfl rfl (by first | rfl | exact cells_ones (by simp [ones_app, ones_ints, ones, AV.one, PV.one])) rfl (by first | rfl | simp [ints_len, *]) (by simp [ints_len, *] <;> omega) (by first | exact setAt_all _ _ (by simp [ints_len, *]) | exact setAt_all _ _ (by unfold strm; simp [ints_len, *])) ?_ | refine O.store hE T25 rfl rfl rfl rfl rfl rfl ?_
  refine O.assign rfl rfl ?_
  refine O.nil ?_
  try refine Run.keep [0, 1, 2, 3, 4, 8] rfl rfl ?_
  refine Run.ret ?_
  exact Ends.ex hE (.inr rfl) (ys := [.agg (ints .u8 R), .pv (.int .i64 0)]) (.cell rfl rfl T25 rfl (by simp [ints_len, hl]) (.tmp rfl .nil)) rfl (by simp [men3, mens2, men2, men1, mens1_ints])
end
theorem tells_sum : (sumP (turnP stepsL) [97, 98, 99]).getD (0 + (0 : Int).toNat) 0 = 186 := by decide +kernel
theorem tells_mac : (macP (turnP stepsL) [74, 101, 102, 101] [119, 104, 97, 116, 32, 100, 111, 32, 121, 97, 32, 119, 97, 110, 116, 32, 102, 111, 114, 32, 110, 111, 116, 104, 105, 110, 103, 63]).getD (0 + (0 : Int).toNat) 0 = 91 := by decide +kernel
end Go.Proofs.YtcbdhdblchmofaaDoor.Vm
