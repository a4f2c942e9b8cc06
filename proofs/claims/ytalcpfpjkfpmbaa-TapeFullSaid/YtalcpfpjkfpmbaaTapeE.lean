/- Tapes: opened. Conditions: none. -/
import Derived.Test.YtalcpfpjkfpmbaaTapeD
namespace Go.Proofs.Ytalcpfpjkfpmbaa.Vm
open Go Go.RowKit
set_option linter.unusedVariables false
set_option linter.unusedSimpArgs false
section
variable {E : Env} {n : Nat} {tm : List (Nat × AV)} {bx : List (Nat × Box)} {ops : Array Oper} {l : List Oper} {d : Tmp} {ty : TypeId} {pos : String} {after : Array Edge}
theorem D.lenLstQ {Θ : List Rec → St → Prop} {t e : TypeId} {y : Operand} {i : TI} {sz : Nat} {xs : List PV} {m : Int} (hE : E.Ok) (ht : E.T t = some i) (hk : i.desc = .slc e) (hy : evO E tm y = some (.pv (.lst sz xs))) (hm : (xs.length : Int) = m) (hd : Nat.blt d n = true)
    (h : Dr E.P E.g ops l ⟨n, (d, .pv (.int .i64 m)) :: tm, bx⟩ (fun rs => Θ (⟨rtOf y (.pv (.lst sz xs)), rbOf bx (.pv (.lst sz xs)), [], some d, .pv (.int .i64 m), []⟩ :: rs))) : Dr E.P E.g ops (⟨some d, .call { callee := .builtin .len, args := #[y], argTypes := #[t] }, ty, pos, after, none⟩ :: l) ⟨n, tm, bx⟩ Θ := by
  subst hm
  exact D.lenLst hE ht hk hy rfl trivial hd h
end
attribute [local irreducible] Ops Dr Run
/-- A record that may be. -/
def rOk (r : List Int) : Prop := (1 ≤ r.length ∧ r.length ≤ 310) ∧ bOk r
/-- Records, each in its frame. -/
def frms : List (List Int) → List Int
  | [] => []
  | r :: rs => hdr r ++ r ++ frms rs
theorem frms_app : ∀ a b : List (List Int), frms (a ++ b) = frms a ++ frms b
  | [], b => rfl
  | r :: a, b => by simp only [List.cons_append, frms, frms_app a b, List.append_assoc]
theorem hdr_len (r : List Int) : (hdr r).length = 6 := rfl
theorem bOk_app {a b : List Int} (ha : bOk a) (hb : bOk b) : bOk (a ++ b) := fun z hz => (List.mem_append.1 hz).elim (ha z) (hb z)
theorem hdr_ok (r : List Int) : bOk (hdr r) := fun z hz => by
  unfold hdr at hz
  simp only [List.mem_cons, List.mem_nil_iff, or_false] at hz
  rcases hz with rfl | rfl | rfl | rfl | rfl | rfl <;> omega
theorem frms_ok : ∀ {rs : List (List Int)}, (∀ r ∈ rs, rOk r) → bOk (frms rs)
  | [], _ => fun z hz => by simp [frms] at hz
  | r :: rs, h => bOk_app (bOk_app (hdr_ok r) (h r (by simp)).2) (frms_ok fun x hx => h x (by simp [hx]))
variable {g : Nat → Option (List PV)}
theorem fnOpen {Ls : List (List Int)} {rs : List (List Int)} (h : TG Ls (frms rs)) (hr : ∀ r ∈ rs, rOk r) : FnC (En Try.prog g) 9 [dskA Ls []] (.tup [.gl 101 rs.length, .pv (.int .i64 0)]) [(101, .lst 32 1 (rs.map byP))] := by
  have hE := EnOk g
  have c1 := fnGood (g := g) h
  have hfl : (frms rs).length ≤ 13000 := by have := h.fit; have := h.l4; omega
  clear h
  refine FnC.of Try.func9 rfl rfl rfl rfl ?_
  repeat (first | refine Run.seq ?_ | refine Run.skip ?_ | refine Run.block ?_)
  refine Run.region ?_
  refine O.box 1 rfl (by first | rfl | exact cells_ones (by simp [ones_app, ones_ints, ones, AV.one, PV.one])) rfl rfl ?_
  refine O.assign rfl rfl ?_
  refine O.assign rfl rfl ?_
  refine O.nil ?_
  try refine Run.keep [0, 1, 2, 3, 4, 5, 6, 7, 14, 18, 21, 49] rfl rfl ?_
  repeat (first | refine Run.seq ?_ | refine Run.skip ?_ | refine Run.block ?_)
  refine Run.region ?_
  refine O.load hE T26 rfl rfl rfl rfl ?_
  refine O.callE c1 rfl (by first | rfl | simp [closed, men3, mens2_app, mens2_ints, mens2, men2, men1, mens1_app, mens1_ints, mens1]) (by first | rfl | simp [d2, ds1_ints, ds1_app, ds1, d1, ds0_app, ds0_ints, ds0, d0]) rfl ?_
  refine O.move rfl rfl ?_
  refine O.extract rfl rfl rfl ?_
  refine O.extract rfl rfl rfl ?_
  refine O.assign rfl rfl ?_
  refine O.assign rfl rfl ?_
  refine O.nil ?_
  try refine Run.keep [0, 1, 2, 3, 4, 5, 6, 7, 14, 18, 21, 49] rfl rfl ?_
  repeat (first | refine Run.seq ?_ | refine Run.skip ?_ | refine Run.block ?_)
  refine Run.region ?_
  refine O.move rfl rfl ?_
  first | refine O.cmp rfl rfl rfl (by first | exact decide_eq_true (by omega) | exact decide_eq_false (by omega)) rfl ?_ | refine O.cmp rfl rfl rfl rfl rfl ?_
  refine O.nil ?_
  try refine Run.keep [0, 1, 2, 3, 4, 5, 6, 7, 14, 18, 21, 49] rfl rfl ?_
  repeat (first | refine Run.seq ?_ | refine Run.skip ?_)
  first | refine Run.condT rfl rfl ?_ | refine Run.condF rfl rfl ?_ | refine Run.condT rfl (by assumption) ?_ | refine Run.condF rfl (by assumption) ?_
  repeat (first | refine Run.seq ?_ | refine Run.skip ?_ | refine Run.block ?_)
  refine Run.region ?_
  refine O.assign rfl rfl ?_
  refine O.nil ?_
  try refine Run.keep [0, 1, 2, 3, 4, 5, 6, 7, 14, 18, 21, 49] rfl rfl ?_
  refine Run.pre (SLe.nilBox (t := 6) (b := 101) (e := 32) (sz := 1) rfl rfl rfl rfl) ?_
  repeat (first | refine Run.seq ?_ | refine Run.skip ?_)
  refine Run.block ?_
  have hsuf : ∀ j, j ≤ rs.length → (frms (rs.drop j)).length + 7 * j ≤ (frms rs).length := by
    intro j
    induction j with
    | zero => intro _; simp
    | succ j ih =>
      intro hj
      have := ih (by omega)
      rw [List.drop_eq_getElem_cons (show j < rs.length by omega), frms] at this
      have h1 := (hr rs[j] (List.getElem_mem (by omega))).1
      simp only [List.length_append, hdr_len] at this
      omega
  refine Run.loopInv (ι := Nat) (fun j => j ≤ rs.length) (fun j => ⟨64, [(4, .pv (byP (frms (rs.drop j)))), (6, .gl 101 ((rs.take j).map byP).length)], [(101, .lst 32 1 ((rs.take j).map byP))]⟩) (fun j => rs.length - j) 0 (Nat.zero_le _) ?_ ?_
  ·
    exact SLe.drop (by repeat (first | exact TmIn.nil | refine TmIn.cons rfl ?_)) (by repeat (first | exact BxIn.nil | refine BxIn.cons rfl ?_)) rfl rfl
  rintro j hj ih
  have hs0 := hsuf j hj
  by_cases hlt : j < rs.length
  ·
    have hrj := hr rs[j] (List.getElem_mem hlt)
    have e0 : frms (rs.drop j) = hdr rs[j] ++ rs[j] ++ frms (rs.drop (j + 1)) := by rw [List.drop_eq_getElem_cons hlt, frms]
    have e1 : rs.take (j + 1) = rs.take j ++ [rs[j]] := by rw [List.take_add_one, List.getElem?_eq_getElem hlt]; rfl
    have htl : (rs.take j).length = j := by rw [List.length_take]; omega
    rw [e0] at hs0 ⊢
    obtain ⟨F, hF⟩ : ∃ F, frms (rs.drop (j + 1)) = F := ⟨_, rfl⟩
    rw [hF] at hs0 ⊢
    generalize rs.take j = T at *
    generalize rs[j] = r at *
    obtain ⟨⟨r1, r2⟩, r3⟩ := hrj
    obtain ⟨x1, x2⟩ := crc_lt r
    have n1 : numP [(r.length : Int) / 256 % 256, (r.length : Int) % 256] = r.length := by
      unfold numP
      simp only [List.foldl_cons, List.foldl_nil]
      omega
    have n2 : numP [crcP r / 16777216 % 256, crcP r / 65536 % 256, crcP r / 256 % 256, crcP r % 256] = crcP r := by
      unfold numP
      simp only [List.foldl_cons, List.foldl_nil]
      omega
    have hhd : hdr r = [(r.length : Int) / 256 % 256, (r.length : Int) % 256, crcP r / 16777216 % 256, crcP r / 65536 % 256, crcP r / 256 % 256, crcP r % 256] := rfl
    have hok := hdr_ok r
    have cn1 := fnNumber (g := g) (b := [(r.length : Int) / 256 % 256, (r.length : Int) % 256]) (fun z hz => hok z (by rw [hhd]; simp only [List.mem_cons, List.mem_nil_iff, or_false] at hz ⊢; rcases hz with h | h <;> simp [h])) (by simp)
    have cn2 := fnNumber (g := g) (b := [crcP r / 16777216 % 256, crcP r / 65536 % 256, crcP r / 256 % 256, crcP r % 256]) (fun z hz => hok z (by rw [hhd]; simp only [List.mem_cons, List.mem_nil_iff, or_false] at hz ⊢; rcases hz with h | h | h | h <;> simp [h])) (by simp)
    have cc := fnCrc (g := g) r3 (by omega)
    rw [n1] at cn1
    rw [n2] at cn2
    have y1 : ((((hdr r ++ r ++ F).map (PV.int .u8)).take (2 : Int).toNat).drop (0 : Int).toNat) = [(r.length : Int) / 256 % 256, (r.length : Int) % 256].map (PV.int .u8) := rfl
    have y2 : ((((hdr r ++ r ++ F).map (PV.int .u8)).take (6 : Int).toNat).drop (2 : Int).toNat) = [crcP r / 16777216 % 256, crcP r / 65536 % 256, crcP r / 256 % 256, crcP r % 256].map (PV.int .u8) := rfl
    have hl6 := hdr_len r
    clear hhd hok n1 n2
    have w6 : IntKind.i64.wrap (6 + (r.length : Int)) = 6 + r.length := wrap_i64 (by omega) (by omega)
    have y3 : ((((hdr r ++ r ++ F).map (PV.int .u8)).take (6 + (r.length : Int)).toNat).drop (6 : Int).toNat) = r.map (PV.int .u8) := by
      rw [← List.map_take, ← List.map_drop, show (6 + (r.length : Int)).toNat = (hdr r ++ r).length by simp [hl6]; omega, List.take_left, show (6 : Int).toNat = (hdr r).length from rfl, List.drop_left]
    have y4 : (((hdr r ++ r ++ F).map (PV.int .u8)).take ((hdr r ++ r ++ F).map (PV.int .u8)).length).drop (6 + (r.length : Int)).toNat = F.map (PV.int .u8) := by
      rw [List.take_length, ← List.map_drop, show (6 + (r.length : Int)).toNat = (hdr r ++ r).length by simp [hl6]; omega, List.drop_left]
    have hXl : (hdr r ++ r ++ F).length = 6 + r.length + F.length := by rw [List.length_append, List.length_append, hl6]
    generalize hX : hdr r ++ r ++ F = X at *
    have hxm : (((X.map (PV.int .u8)).length : Nat) : Int) = 6 + r.length + F.length := by simp [hXl]
    generalize crcP r = C at *
    have hel : List.take r.length (r.map (PV.int .u8)) = r.map (PV.int .u8) := List.take_of_length_le (by simp)
    have hFl : F.length ≤ 13000 := by omega
    repeat (first | refine Run.seq ?_ | refine Run.skip ?_ | refine Run.block ?_)
    refine Run.region ?_
    refine O.move rfl rfl ?_
    refine O.lenN hE T32 rfl rfl rfl newest_pv hxm rfl ?_
    first | refine O.cmp rfl rfl rfl (by first | exact decide_eq_true (by omega) | exact decide_eq_false (by omega)) rfl ?_ | refine O.cmp rfl rfl rfl rfl rfl ?_
    refine O.nil ?_
    try refine Run.keep [0, 1, 2, 3, 4, 5, 6, 7, 14, 18, 21, 49] rfl rfl ?_
    repeat (first | refine Run.seq ?_ | refine Run.skip ?_)
    first | refine Run.condT rfl rfl ?_ | refine Run.condF rfl rfl ?_ | refine Run.condT rfl (by assumption) ?_ | refine Run.condF rfl (by assumption) ?_
    repeat (first | refine Run.seq ?_ | refine Run.skip ?_ | refine Run.block ?_)
    refine Run.region ?_
    refine O.move rfl rfl ?_
    refine O.lenN hE T32 rfl rfl rfl newest_pv hxm rfl ?_
    first | refine O.cmp rfl rfl rfl (by first | exact decide_eq_true (by omega) | exact decide_eq_false (by omega)) rfl ?_ | refine O.cmp rfl rfl rfl rfl rfl ?_
    refine O.nil ?_
    try refine Run.keep [0, 1, 2, 3, 4, 5, 6, 7, 14, 18, 21, 49] rfl rfl ?_
    repeat (first | refine Run.seq ?_ | refine Run.skip ?_)
    first | refine Run.condT rfl rfl ?_ | refine Run.condF rfl rfl ?_ | refine Run.condT rfl (by assumption) ?_ | refine Run.condF rfl (by assumption) ?_
    repeat (first | refine Run.seq ?_ | refine Run.skip ?_ | refine Run.block ?_)
    refine Run.region ?_
    refine O.move rfl rfl ?_
    refine O.slice hE T32 rfl T5 rfl rfl newest_pv rfl rfl rfl (by omega) (by omega) (by simp only [List.length_map, hXl]; omega) y1 rfl ?_
    refine O.callE cn1 rfl (by first | rfl | simp [closed, men3, mens2_app, mens2_ints, mens2, men2, men1, mens1_app, mens1_ints, mens1]) (by first | rfl | simp [d2, ds1_ints, ds1_app, ds1, d1, ds0_app, ds0_ints, ds0, d0]) rfl ?_
    refine O.assign rfl rfl ?_
    refine O.nil ?_
    try refine Run.keep [0, 1, 2, 3, 4, 5, 6, 7, 14, 18, 21, 49] rfl rfl ?_
    repeat (first | refine Run.seq ?_ | refine Run.skip ?_ | refine Run.block ?_)
    refine Run.draw mixed rfl ?_
    refine D.move rfl rfl ?_
    first | refine D.cmp rfl rfl rfl (by first | exact decide_eq_true (by omega) | exact decide_eq_false (by omega)) rfl ?_ | refine D.cmp rfl rfl rfl rfl rfl ?_
    refine D.move rfl rfl ?_
    first | (refine D.yes rfl rfl (by first | rfl | assumption) ?_; refine D.move rfl rfl ?_) | refine D.no rfl rfl rfl rfl ?_
    first | (refine D.yes rfl rfl (by first | rfl | assumption) ?_; first | refine D.cmp rfl rfl rfl (by first | exact decide_eq_true (by omega) | exact decide_eq_false (by omega)) rfl ?_ | refine D.cmp rfl rfl rfl rfl rfl ?_) | refine D.no rfl rfl rfl rfl ?_
    refine D.pick rfl rfl rfl rfl rfl ?_
    refine D.move rfl rfl ?_
    first | (refine D.yes rfl rfl (by first | rfl | assumption) ?_; refine D.move rfl rfl ?_) | refine D.no rfl rfl rfl rfl ?_
    first | (refine D.yes rfl rfl (by first | rfl | assumption) ?_; refine D.move rfl rfl ?_) | refine D.no rfl rfl rfl rfl ?_
    first | (refine D.yes rfl rfl (by first | rfl | assumption) ?_; refine D.lenLstQ hE T32 rfl rfl hxm rfl ?_) | refine D.no rfl rfl rfl rfl ?_
    first | (refine D.yes rfl rfl (by first | rfl | assumption) ?_; first | refine D.ar rfl rfl rfl (by exact wrap_i64 (by omega) (by omega)) rfl ?_ | refine D.ar rfl rfl rfl rfl rfl ?_) | refine D.no rfl rfl rfl rfl ?_
    first | (refine D.yes rfl rfl (by first | rfl | assumption) ?_; first | refine D.cmp rfl rfl rfl (by first | exact decide_eq_true (by omega) | exact decide_eq_false (by omega)) rfl ?_ | refine D.cmp rfl rfl rfl rfl rfl ?_) | refine D.no rfl rfl rfl rfl ?_
    refine D.pick rfl rfl rfl rfl rfl ?_
    refine D.move rfl rfl ?_
    first | (refine D.yes rfl rfl (by first | rfl | assumption) ?_; refine D.move rfl rfl ?_) | refine D.no rfl rfl rfl rfl ?_
    first | (refine D.yes rfl rfl (by first | rfl | assumption) ?_; refine D.sliceP hE T32 rfl T5 rfl rfl rfl rfl (by omega) (by omega) (by simp only [List.length_map, hXl]; omega) y2 rfl ?_) | refine D.no rfl rfl rfl rfl ?_
    first | (refine D.yes rfl rfl (by first | rfl | assumption) ?_; refine D.callE cn2 rfl (by first | rfl | simp [closed, men3, mens2_app, mens2_ints, mens2, men2, men1, mens1_app, mens1_ints, mens1]) (by first | rfl | simp [d2, ds1_ints, ds1_app, ds1, d1, ds0_app, ds0_ints, ds0, d0]) rfl ?_) | refine D.no rfl rfl rfl rfl ?_
    first | (refine D.yes rfl rfl (by first | rfl | assumption) ?_; refine D.conv hE T3 T55 rfl rfl rfl ?_) | refine D.no rfl rfl rfl rfl ?_
    first | (refine D.yes rfl rfl (by first | rfl | assumption) ?_; refine D.move rfl rfl ?_) | refine D.no rfl rfl rfl rfl ?_
    first | (refine D.yes rfl rfl (by first | rfl | assumption) ?_; refine D.move rfl rfl ?_) | refine D.no rfl rfl rfl rfl ?_
    first | (refine D.yes rfl rfl (by first | rfl | assumption) ?_; refine D.ar (q := 6 + (r.length : Int)) rfl rfl rfl w6 rfl ?_) | refine D.no rfl rfl rfl rfl ?_
    first | (refine D.yes rfl rfl (by first | rfl | assumption) ?_; refine D.sliceP hE T32 rfl T5 rfl rfl rfl rfl (by omega) (by omega) (by simp only [List.length_map, hXl]; omega) y3 rfl ?_) | refine D.no rfl rfl rfl rfl ?_
    first | (refine D.yes rfl rfl (by first | rfl | assumption) ?_; refine D.callE cc rfl (by first | rfl | simp [closed, men3, mens2_app, mens2_ints, mens2, men2, men1, mens1_app, mens1_ints, mens1]) (by first | rfl | simp [d2, ds1_ints, ds1_app, ds1, d1, ds0_app, ds0_ints, ds0, d0]) rfl ?_) | refine D.no rfl rfl rfl rfl ?_
    first | (refine D.yes rfl rfl (by first | rfl | assumption) ?_; refine D.cmp (c' := false) rfl rfl rfl (decide_eq_false (by rw [IntKind.wrap_u32]; omega)) rfl ?_) | refine D.no rfl rfl rfl rfl ?_
    refine D.pick rfl rfl rfl rfl rfl ?_
    refine Dr.nil ?_
    refine ⟨rfl, ?_⟩
    try refine Run.keep [0, 1, 2, 3, 4, 5, 6, 7, 14, 18, 21, 49] rfl rfl ?_
    repeat (first | refine Run.seq ?_ | refine Run.skip ?_)
    first | refine Run.condT rfl rfl ?_ | refine Run.condF rfl rfl ?_ | refine Run.condT rfl (by assumption) ?_ | refine Run.condF rfl (by assumption) ?_
    repeat (first | refine Run.seq ?_ | refine Run.skip ?_ | refine Run.block ?_)
    refine Run.region ?_
    refine O.move rfl rfl ?_
    refine O.lit hE 51 T32 rfl T5 rfl rfl (xs := []) rfl rfl rfl rfl rfl rfl ?_
    refine O.move rfl rfl ?_
    refine O.move rfl rfl ?_
    refine O.ar (q := 6 + (r.length : Int)) rfl rfl rfl w6 rfl ?_
    refine O.slice hE T32 rfl T5 rfl rfl newest_pv rfl rfl rfl (by omega) (by omega) (by simp only [List.length_map, hXl]; omega) y3 rfl ?_
    refine O.appI (q := []) (r := r) hE T32 rfl T5 rfl rfl rfl rfl rfl newest_pv rfl rfl rfl rfl (by simp; omega) (by simp [maxLen]; omega) rfl ?_
    refine O.litV (xs := [r].map byP) hE T33 rfl T32 rfl rfl (by simp only [elemsO, evO]; simp [look, pub1O, pubO, hel, PV.cells, PV.one]) rfl rfl rfl rfl ?_
    refine O.appM byP (q := T) (r := [r]) hE T33 rfl T32 rfl rfl (by simp) rfl rfl newest_pv rfl rfl rfl rfl (by simp; omega) (by simp [maxLen]; omega) rfl ?_
    refine O.assign rfl rfl ?_
    refine O.nil ?_
    try refine Run.keep [0, 1, 2, 3, 4, 5, 6, 7, 14, 18, 21, 49] rfl rfl ?_
    repeat (first | refine Run.seq ?_ | refine Run.skip ?_ | refine Run.block ?_)
    refine Run.region ?_
    refine O.move rfl rfl ?_
    refine O.move rfl rfl ?_
    refine O.ar (q := 6 + (r.length : Int)) rfl rfl rfl w6 rfl ?_
    refine O.slice hE T32 rfl T5 rfl rfl newest_pv rfl rfl rfl (by omega) (by simp only [List.length_map, hXl]; omega) (by simp) y4 rfl ?_
    refine O.assign rfl rfl ?_
    refine O.nil ?_
    try refine Run.keep [0, 1, 2, 3, 4, 5, 6, 7, 14, 18, 21, 49] rfl rfl ?_
    refine ih (j + 1) _ ?_ (by omega) (by omega)
    rw [e1, hF, List.length_map]
    exact SLe.drop (by repeat (first | exact TmIn.nil | refine TmIn.cons rfl ?_)) (by repeat (first | exact BxIn.nil | refine BxIn.cons rfl ?_)) rfl rfl
  obtain rfl : j = rs.length := by omega
  rw [List.drop_length, List.take_length, List.length_map]
  repeat (first | refine Run.seq ?_ | refine Run.skip ?_ | refine Run.block ?_)
  refine Run.region ?_
  refine O.move rfl rfl ?_
  first | refine O.lenN hE T32 rfl rfl rfl (by first | exact newest_pv | exact newest_gl rfl rfl | trivial) lenC rfl ?_ | refine O.lenLst hE T32 rfl rfl rfl (by first | exact newest_pv | exact newest_gl rfl rfl | trivial) rfl ?_
  first | refine O.cmp rfl rfl rfl (by first | exact decide_eq_true (by omega) | exact decide_eq_false (by omega)) rfl ?_ | refine O.cmp rfl rfl rfl rfl rfl ?_
  refine O.nil ?_
  try refine Run.keep [0, 1, 2, 3, 4, 5, 6, 7, 14, 18, 21, 49] rfl rfl ?_
  repeat (first | refine Run.seq ?_ | refine Run.skip ?_)
  first | refine Run.condT rfl rfl ?_ | refine Run.condF rfl rfl ?_ | refine Run.condT rfl (by assumption) ?_ | refine Run.condF rfl (by assumption) ?_
  refine Run.exit ?_
  repeat (first | refine thenR_exit ?_ | refine roundR_exit ?_ | refine blockR_exit ?_ | refine blockR_pass rfl ?_)
  repeat (first | refine Run.seq ?_ | refine Run.skip ?_ | refine Run.block ?_)
  refine Run.region ?_
  refine O.move rfl rfl ?_
  refine O.assign rfl rfl ?_
  refine O.assign rfl rfl ?_
  refine O.nil ?_
  try refine Run.keep [0, 1, 2, 3, 4, 5, 6, 7, 14, 18, 21, 49] rfl rfl ?_
  refine Run.ret ?_
  exact Ends.of hE (.inr rfl) rfl rfl (SLe.drop (by repeat (first | exact TmIn.nil | refine TmIn.cons rfl ?_)) (by repeat (first | exact BxIn.nil | refine BxIn.cons rfl ?_)) rfl rfl)
end Go.Proofs.Ytalcpfpjkfpmbaa.Vm
