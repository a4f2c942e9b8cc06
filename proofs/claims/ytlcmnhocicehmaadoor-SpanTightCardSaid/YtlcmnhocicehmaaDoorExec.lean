/- The walk by reckoning: one function takes the operations of a region one after the other, and asks for what it can't reckon. Conditions: none. -/
import Derived.Test.YtlcmnhocicehmaaDoorLoose
import Derived.ChangeKeysEq
import Derived.Laws.StructEq
namespace Go.Proofs.YtlcmnhocicehmaaDoor.Vm
open Go Go.RowKit
set_option linter.unusedVariables false
set_option linter.unusedSimpArgs false
def unpv : List AV → Option (List PV)
  | [] => some []
  | .pv p :: l => (unpv l).map (p :: ·)
  | _ :: _ => none
theorem unpv_ok : ∀ {cs : List AV} {ps : List PV}, unpv cs = some ps → cs = ps.map AV.pv
  | [], ps, h => by simp only [unpv] at h; obtain rfl := Option.some.inj h; rfl
  | .pv p :: l, ps, h => by
    simp only [unpv, Option.map_eq_some_iff] at h
    obtain ⟨qs, h1, rfl⟩ := h
    rw [unpv_ok h1]; rfl
  | .any :: l, ps, h => by simp [unpv] at h
  | .agg _ :: l, ps, h => by simp [unpv] at h
  | .tup _ :: l, ps, h => by simp [unpv] at h
  | .gl _ _ :: l, ps, h => by simp [unpv] at h
  | .ptr _ _ :: l, ps, h => by simp [unpv] at h
  | .vrow _ _ _ :: l, ps, h => by simp [unpv] at h
  | .eptr _ :: l, ps, h => by simp [unpv] at h
  | .clo _ _ :: l, ps, h => by simp [unpv] at h
def onesP : List PV → Bool
  | [] => true
  | p :: l => p.one && onesP l
theorem onesP_ok : ∀ {l : List PV}, onesP l = true → ∀ x ∈ l, x.one = true
  | p :: l, h, x, hx => by
    simp only [onesP, Bool.and_eq_true] at h
    rcases List.mem_cons.1 hx with rfl | hx
    · exact h.1
    · exact onesP_ok h.2 x hx
theorem RA.aggPV {G : Gh} {ps : List PV} {v : Value} (h : RA G (.agg (ps.map .pv)) v) (h1 : ∀ x ∈ ps, x.one = true) : RP G.dat (.agg ps) v := by
  cases h with
  | agg _ vs hl h =>
    refine .agg ps vs (by simpa using hl) h1 (fun i x u hx hu => ?_)
    have := h i (.pv x) u (by rw [List.getElem?_map, hx]; rfl) hu
    cases this with
    | pv _ _ h => exact h
theorem RP.aggAV {G : Gh} {ps : List PV} {v : Value} (h : RP G.dat (.agg ps) v) : RA G (.agg (ps.map .pv)) v := by
  cases h with
  | agg _ vs hl h1 h =>
    refine .agg _ vs (by simpa using hl) (fun i x u hx hu => ?_)
    rw [List.getElem?_map, Option.map_eq_some_iff] at hx
    obtain ⟨q, hq, rfl⟩ := hx
    exact .pv _ _ (h i q u hq hu)
section
variable {P : Program} {g : Gb} {s : St}
theorem OpOk.mkIfc {dst : Option Tmp} {t : TypeId} {y : Operand} {ty : TypeId} {pos : String} {after : Array Edge} {gd : Option (Nat × Bool)} {i : TI} {cs : List AV} {ps : List PV} (ht : tiOf P t = some i) (hk : i.desc = .str) (hy : s.ev g y = .agg cs) (hu : unpv cs = some ps) (h1 : onesP ps = true)
    (hd : ∀ t, dst = some t → t < s.n) : OpOk P g ⟨dst, .makeInterface t y, ty, pos, after, gd⟩ s (s.putO dst (.pv (.ifc t (.agg ps)))) := by
  refine OpOk.val (o := ⟨dst, .makeInterface t y, ty, pos, after, gd⟩) hd (fun cx a w G hP hg hs => ?_)
  have e1 := hs.ev hg y
  rw [hy, unpv_ok hu] at e1
  obtain ⟨d, u1, u2⟩ := tiOf_und ht
  rw [hk] at u2
  refine ⟨.iface t (a.eval y), ?_, .pv _ _ (.ifc t _ _ (e1.aggPV (onesP_ok h1)))⟩
  have hm : (Instr.makeInterface t (a.eval y)).run P w = .ok (.iface t (a.eval y)) w := by
    unfold Instr.makeInterface
    rw [Sem.run_bind, run_underlying u1 w]
    cases d <;> simp [kOf] at u2 ⊢ <;> rfl
  simp only [execOp, Sem.run_bind, hm, Result.andThen_ok]
  rfl
end
/-- The method that a value's type has under a name, of one argument. -/
def Meth (P : Program) (t : TypeId) (name : String) (f : FuncId) : Prop := ∀ (v u : Value) (w : World), (callMethod (.iface t v) name #[u]).run P w = .ok (.enter f #[v, u]) w
/-- What is handed to the walk: the answer of a test, a number, an element, a contract. -/
inductive Hint (E : Env) where
  | d
  | b (c : Bool)
  | c (v : Bool)
  | w (q : Int)
  | el (x : PV)
  | ch (c : UInt8)
  | xs (l : List PV)
  | xl (l : List PV) (n : Nat)
  | st (s : ByteArray)
  | gr
  | nx (c wd : Nat)
  | nf
  | fn (f : FuncId) (args : List AV) (r : AV) (h : FnC E f args r [])
  | fnb (f : FuncId) (args : List AV) (r : AV) (bs : List (Nat × Box)) (h : FnC E f args r bs)
  | nil (c i e sz b : Nat)
  | ln (ln : List Nat) (f : FuncId) (args : List AV) (bi : List (Nat × Box)) (r : AV) (bo : List (Nat × Box)) (h : FnL ⟨E.P, ⟨E.g.fn, ln⟩, E.T, E.L⟩ f args bi r bo)
  | eq (t : TypeId) (us vs : List Value) (r c : Bool) (hg : E.P.eqGuardType E.P.depth t = false) (h : ∀ w, (Op.equalIn 10000 t (.agg us.toArray) (.agg vs.toArray)).run E.P w = .ok r w)
  | inv (t : TypeId) (name : String) (f : FuncId) (args : List AV) (r : AV) (hm : Meth E.P t name f) (h : FnC E f args r [])
/-- What must be shown for a step. -/
inductive Ob where
  | t
  | p (q : Prop)
def Ob.holds : Ob → Prop
  | .t => True
  | .p q => q
inductive Step (E : Env) where
  | stuck
  | ok (r : Rec) (ob : Ob)
theorem good_of {P : Program} {g : Gb} {ops : Array Oper} {o : Oper} {r : Rec} {s : St} (h : ∀ Θ : List Rec → St → Prop, Dr P g ops [] (r.app s) (fun rs => Θ (r :: rs)) → Dr P g ops [o] s Θ) : RecOk P g ops o r ∧ r.Met s := by
  obtain ⟨rs, s', h1, h2⟩ := h (fun rs _ => rs = [r]) (Dr.nil rfl)
  subst h2
  cases h1 with
  | cons h hm t => exact ⟨h, hm⟩
def ikN : IntKind → Nat
  | .i8 => 0 | .i16 => 1 | .i32 => 2 | .i64 => 3 | .u8 => 4 | .u16 => 5 | .u32 => 6 | .u64 => 7
theorem ikN_eq {a b : IntKind} (h : Nat.beq (ikN a) (ikN b) = true) : a = b := by
  cases a <;> cases b <;> first | rfl | (exact absurd h (by decide))
/-- A number with its bounds. -/
def inKs (E : Env) (k : IntKind) (q : Int) (f : Prop → Step E) : Step E :=
  match k with
  | .i64 => f (-9223372036854775808 ≤ q ∧ q ≤ 9223372036854775807)
  | .u8 => f (0 ≤ q ∧ q ≤ 255)
  | .i32 => f (-2147483648 ≤ q ∧ q ≤ 2147483647)
  | .u32 => f (0 ≤ q ∧ q ≤ 4294967295)
  | .u64 => f (0 ≤ q ∧ q ≤ 18446744073709551615)
  | k => f (k.wrap q = q)
theorem inKs_ok {E : Env} {k : IntKind} {q : Int} {f : Prop → Step E} {r : Rec} {ob : Ob} (h : inKs E k q f = .ok r ob) : ∃ p, f p = .ok r ob ∧ (p → k.wrap q = q) := by
  cases k <;> simp only [inKs] at h
  all_goals refine ⟨_, h, fun hp => ?_⟩
  all_goals first | exact hp | skip
  · simp only [IntKind.wrap, IntKind.bits, IntKind.signed]; simp; omega
  · simp only [IntKind.wrap, IntKind.bits, IntKind.signed]; simp; omega
  · simp only [IntKind.wrap, IntKind.bits, IntKind.signed]; simp; omega
  · simp only [IntKind.wrap, IntKind.bits, IntKind.signed]; simp; omega
  · simp only [IntKind.wrap, IntKind.bits, IntKind.signed]; simp; omega
/-- What a test of two numbers says. -/
def cmpQ : BinOp → Int → Int → Bool → Option Prop
  | .eql, m, j, true => some (m = j)
  | .eql, m, j, false => some (¬ m = j)
  | .neq, m, j, true => some (¬ m = j)
  | .neq, m, j, false => some (m = j)
  | .lss, m, j, true => some (m < j)
  | .lss, m, j, false => some (j ≤ m)
  | .leq, m, j, true => some (m ≤ j)
  | .leq, m, j, false => some (j < m)
  | .gtr, m, j, true => some (j < m)
  | .gtr, m, j, false => some (m ≤ j)
  | .geq, m, j, true => some (j ≤ m)
  | .geq, m, j, false => some (m < j)
  | _, _, _, _ => none
theorem cmpQ_ok {b : BinOp} {m j : Int} {c : Bool} {p : Prop} (h : cmpQ b m j c = some p) (hp : p) : cmpI b m j = some c := by
  cases b <;> cases c <;> simp only [cmpQ] at h <;> first | (cases h; done) | skip
  all_goals
    obtain rfl := Option.some.inj h
    simp only [cmpI, Option.some.injEq, decide_eq_true_eq, decide_eq_false_iff_not]
    omega
section
variable (E : Env) (n : Nat) (tm : List (Nat × AV)) (bx : List (Nat × Box)) (hh : Hint E) (d : Tmp)
def sMove (y : Operand) : Step E :=
  match evO E tm y with
  | some x => .ok ⟨rtOf y x, [], [], some d, x, []⟩ .t
  | none => .stuck
def sPick (c y z : Operand) : Step E :=
  match evO E tm c, evO E tm y, evO E tm z with
  | some (.pv (.bool true)), some u, some v => .ok ⟨rtOf c (.pv (.bool true)) ++ (rtOf y u ++ rtOf z v), [], [], some d, u, []⟩ .t
  | some (.pv (.bool false)), some u, some v => .ok ⟨rtOf c (.pv (.bool false)) ++ (rtOf y u ++ rtOf z v), [], [], some d, v, []⟩ .t
  | _, _, _ => .stuck
def sAlloc (t : TypeId) : Step E :=
  match E.T t with
  | some i => match pvsO i.zero, look bx d, inN E.g.ln d with
    | some cs, none, false => .ok ⟨[], [], [d], some d, .ptr d 0, [(d, .var cs)]⟩ .t
    | _, _, _ => .stuck
  | none => .stuck
def sBox (y : Operand) : Step E :=
  match evO E tm y with
  | some z => match z.cells?, look bx d, inN E.g.ln d with
    | some cs, none, false => .ok ⟨rtOf y z, [], [d], some d, .ptr d 0, [(d, .var cs)]⟩ .t
    | _, _, _ => .stuck
  | none => .stuck
def sBuild (t : TypeId) (parts : Array (Nat × Operand)) : Step E :=
  match E.T t, E.L t with
  | some i, some ls => match pvsO i.zero with
    | some zs => match fillO E (fun j => ls[j]?) tm zs parts.toList with
      | some cs => .ok ⟨rtsOf E tm (parts.toList.map (·.2)), [], [], some d, .agg cs, []⟩ .t
      | none => .stuck
    | none => .stuck
  | _, _ => .stuck
def sLoad (t : TypeId) (y : Operand) : Step E :=
  match E.T t, evO E tm y with
  | some i, some z => match cellsO bx z with
    | some cs => match loadO i cs with
      | some x => .ok ⟨rtOf y z, rbOf bx z, [], some d, x, []⟩ .t
      | none => .stuck
    | none => .stuck
  | _, _ => .stuck
def sStore (t : TypeId) (y x : Operand) : Step E :=
  match E.T t, evO E tm y, evO E tm x with
  | some i, some (.ptr b o), some z => match z.cells?, look bx b with
    | some ys, some (.var cs) => match Nat.beq ys.length i.size, setO cs o ys with
      | true, some cs' => .ok ⟨rtOf y (.ptr b o) ++ rtOf x z, [(b, .var cs)], [], none, .any, [(b, .var cs')]⟩ .t
      | _, _ => .stuck
    | _, _ => .stuck
  | _, _, _ => .stuck
def sNil (y : Operand) : Step E :=
  match evO E tm y with
  | some (.ptr b o) => .ok ⟨rtOf y (.ptr b o), [], [], some d, .ptr b o, []⟩ .t
  | _ => .stuck
def sField (t : TypeId) (y : Operand) (f : Nat) : Step E :=
  match E.L t with
  | some ls => match ls[f]? with
    | some (k, _ + 1) => match evO E tm y with
      | some z => match offO k z with
        | some x => .ok ⟨rtOf y z, [], [], some d, x, []⟩ .t
        | none => .stuck
      | none => .stuck
    | _ => .stuck
  | none => .stuck
def sExtract (y : Operand) (j : Nat) : Step E :=
  match evO E tm y with
  | some (.tup xs) => match xs[j]? with
    | some x => .ok ⟨rtOf y (.tup xs), [], [], some d, x, []⟩ .t
    | none => .stuck
  | _ => .stuck
def sInt (b : BinOp) (y z : Operand) (k k' : IntKind) (m j : Int) : Step E :=
  match Nat.beq (ikN k) (ikN k') with
  | true => match arI b m j with
    | some r => match hh with
      | .w q => .ok ⟨rtOf y (.pv (.int k m)) ++ rtOf z (.pv (.int k j)), [], [], some d, .pv (.int k q), []⟩ (.p (k.wrap r = q))
      | _ => inKs E k r fun p => .ok ⟨rtOf y (.pv (.int k m)) ++ rtOf z (.pv (.int k j)), [], [], some d, .pv (.int k r), []⟩ (.p p)
    | none => match hh with
      | .b c => match cmpQ b m j c with
        | some p => .ok ⟨rtOf y (.pv (.int k m)) ++ rtOf z (.pv (.int k j)), [], [], some d, .pv (.bool c), []⟩ (.p p)
        | none => .stuck
      | .w q => match b with
        | .quo => .ok ⟨rtOf y (.pv (.int k m)) ++ rtOf z (.pv (.int k j)), [], [], some d, .pv (.int k q), []⟩ (.p (j ≠ 0 ∧ k.wrap (m.tdiv j) = q))
        | .rem => .ok ⟨rtOf y (.pv (.int k m)) ++ rtOf z (.pv (.int k j)), [], [], some d, .pv (.int k q), []⟩ (.p (j ≠ 0 ∧ m.tmod j = q))
        | _ => match bitI b k m j with
          | some r => .ok ⟨rtOf y (.pv (.int k m)) ++ rtOf z (.pv (.int k j)), [], [], some d, .pv (.int k q), []⟩ (.p (r = q))
          | none => match b with
            | .shl => .ok ⟨rtOf y (.pv (.int k m)) ++ rtOf z (.pv (.int k' j)), [], [], some d, .pv (.int k q), []⟩ (.p (0 ≤ j ∧ k.wrap (m * 2 ^ (min j.toNat k.bits)) = q))
            | .shr => .ok ⟨rtOf y (.pv (.int k m)) ++ rtOf z (.pv (.int k' j)), [], [], some d, .pv (.int k q), []⟩ (.p (0 ≤ j ∧ m.fdiv (2 ^ (min j.toNat k.bits)) = q))
            | _ => .stuck
      | _ => match cmpI b m j with
        | some c => .ok ⟨rtOf y (.pv (.int k m)) ++ rtOf z (.pv (.int k j)), [], [], some d, .pv (.bool c), []⟩ .t
        | none => .stuck
  | false => match hh, b with
    | .w q, .shl => .ok ⟨rtOf y (.pv (.int k m)) ++ rtOf z (.pv (.int k' j)), [], [], some d, .pv (.int k q), []⟩ (.p (0 ≤ j ∧ k.wrap (m * 2 ^ (min j.toNat k.bits)) = q))
    | .w q, .shr => .ok ⟨rtOf y (.pv (.int k m)) ++ rtOf z (.pv (.int k' j)), [], [], some d, .pv (.int k q), []⟩ (.p (0 ≤ j ∧ m.fdiv (2 ^ (min j.toNat k.bits)) = q))
    | _, _ => .stuck
/-- A truth that is reckoned: as it is, or as it is said to be. -/
def sTruth (rt : List (Nat × AV)) (v : Bool) : Step E :=
  match hh with
  | .b c => .ok ⟨rt, [], [], some d, .pv (.bool c), []⟩ (.p (v = c))
  | _ => .ok ⟨rt, [], [], some d, .pv (.bool v), []⟩ .t
def sStr (b : BinOp) (y z : Operand) (s s' : ByteArray) : Step E :=
  match b with
  | .add => match hh with
    | .st q => .ok ⟨rtOf y (.pv (.str s)) ++ rtOf z (.pv (.str s')), [], [], some d, .pv (.str q), []⟩ (.p (s.size + s'.size ≤ 9223372036854775807 ∧ s ++ s' = q))
    | _ => .ok ⟨rtOf y (.pv (.str s)) ++ rtOf z (.pv (.str s')), [], [], some d, .pv (.str (s ++ s')), []⟩ (.p (s.size + s'.size ≤ 9223372036854775807))
  | .eql => sTruth E hh d (rtOf y (.pv (.str s)) ++ rtOf z (.pv (.str s'))) (s.toList == s'.toList)
  | .neq => sTruth E hh d (rtOf y (.pv (.str s)) ++ rtOf z (.pv (.str s'))) (!(s.toList == s'.toList))
  | .lss => sTruth E hh d (rtOf y (.pv (.str s)) ++ rtOf z (.pv (.str s'))) (Op.bytesLess s.toList s'.toList)
  | .leq => sTruth E hh d (rtOf y (.pv (.str s)) ++ rtOf z (.pv (.str s'))) (Op.bytesLess s.toList s'.toList || s.toList == s'.toList)
  | .gtr => sTruth E hh d (rtOf y (.pv (.str s)) ++ rtOf z (.pv (.str s'))) (!(Op.bytesLess s.toList s'.toList || s.toList == s'.toList))
  | .geq => sTruth E hh d (rtOf y (.pv (.str s)) ++ rtOf z (.pv (.str s'))) (!(Op.bytesLess s.toList s'.toList))
  | _ => .stuck
def sBool (b : BinOp) (t : TypeId) (y z : Operand) (p q : Bool) : Step E :=
  match E.T t with
  | some i => match i.desc, b with
    | .bool, .eql => sTruth E hh d (rtOf y (.pv (.bool p)) ++ rtOf z (.pv (.bool q))) (p == q)
    | .bool, .neq => sTruth E hh d (rtOf y (.pv (.bool p)) ++ rtOf z (.pv (.bool q))) (!(p == q))
    | _, _ => .stuck
  | none => .stuck
def sAgg (b : BinOp) (t : TypeId) (y z : Operand) (cs ds : List AV) : Step E :=
  match hh with
  | .eq t' us vs r c hg h => match Nat.beq t t', vals? cs, vals? ds, b with
    | true, some us', some vs', .eql => .ok ⟨rtOf y (.agg cs) ++ rtOf z (.agg ds), [], [], some d, .pv (.bool c), []⟩ (.p (us' = us ∧ vs' = vs ∧ r = c))
    | true, some us', some vs', .neq => .ok ⟨rtOf y (.agg cs) ++ rtOf z (.agg ds), [], [], some d, .pv (.bool c), []⟩ (.p (us' = us ∧ vs' = vs ∧ (!r) = c))
    | _, _, _, _ => .stuck
  | _ => .stuck
def sFlt (b : BinOp) (y z : Operand) (m j : Nat) : Step E :=
  match b with
  | .eql => sTruth E hh d (rtOf y (.pv (.flt .f64 m)) ++ rtOf z (.pv (.flt .f64 j))) (FloatKind.f64.format.order m j == some .eq)
  | .neq => sTruth E hh d (rtOf y (.pv (.flt .f64 m)) ++ rtOf z (.pv (.flt .f64 j))) (FloatKind.f64.format.order m j != some .eq)
  | .lss => sTruth E hh d (rtOf y (.pv (.flt .f64 m)) ++ rtOf z (.pv (.flt .f64 j))) (FloatKind.f64.format.order m j == some .lt)
  | .gtr => sTruth E hh d (rtOf y (.pv (.flt .f64 m)) ++ rtOf z (.pv (.flt .f64 j))) (FloatKind.f64.format.order m j == some .gt)
  | _ => .stuck
def sBin (b : BinOp) (t : TypeId) (y z : Operand) : Step E :=
  match evO E tm y, evO E tm z with
  | some (.agg cs), some (.agg ds) => sAgg E hh d b t y z cs ds
  | some (.pv (.flt .f64 m)), some (.pv (.flt .f64 j)) => sFlt E hh d b y z m j
  | some (.pv (.int k m)), some (.pv (.int k' j)) => sInt E hh d b y z k k' m j
  | some (.pv (.str s)), some (.pv (.str s')) => sStr E hh d b y z s s'
  | some (.pv (.bool p)), some (.pv (.bool q)) => sBool E hh d b t y z p q
  | _, _ => .stuck
def sUn (b : UnOp) (y : Operand) : Step E :=
  match b, evO E tm y with
  | .not, some (.pv (.bool p)) => .ok ⟨rtOf y (.pv (.bool p)), [], [], some d, .pv (.bool (!p)), []⟩ .t
  | .neg, some (.pv (.int k m)) => match hh with
    | .w q => .ok ⟨rtOf y (.pv (.int k m)), [], [], some d, .pv (.int k q), []⟩ (.p (k.wrap (0 - m) = q))
    | _ => inKs E k (-m) fun p => .ok ⟨rtOf y (.pv (.int k m)), [], [], some d, .pv (.int k (-m)), []⟩ (.p p)
  | _, _ => .stuck
def sConv (sr t : TypeId) (y : Operand) : Step E :=
  match E.T sr, E.T t, evO E tm y with
  | some _, some i, some (.pv (.int k m)) => match i.desc with
    | .int k' => match hh with
      | .w q => .ok ⟨rtOf y (.pv (.int k m)), [], [], some d, .pv (.int k' q), []⟩ (.p (k'.wrap m = q))
      | _ => inKs E k' m fun p => .ok ⟨rtOf y (.pv (.int k m)), [], [], some d, .pv (.int k' m), []⟩ (.p p)
    | _ => .stuck
  | _, _, _ => .stuck
def sLitV (t : TypeId) (len : Nat) (parts : Array (Nat × Operand)) (i ie : TI) : Step E :=
  match Nat.beq ie.zero.length ie.size, Nat.blt 0 ie.size, elemsO E [] tm ie.size 0 parts.toList with
  | true, true, some xs => match Nat.beq len parts.toList.length, Nat.beq len xs.length, Nat.ble (len * ie.size) 16777216 with
    | true, true, true => .ok ⟨rtsOf E tm (parts.toList.map (·.2)), [], [], some d, .pv (.lst ie.size xs), []⟩ .t
    | _, _, _ => .stuck
  | _, _, _ => .stuck
def sLitG (t e : TypeId) (len : Nat) (parts : Array (Nat × Operand)) (i ie : TI) : Step E :=
  match Nat.beq ie.zero.length ie.size, Nat.blt 0 ie.size, elemsO E [] tm ie.size 0 parts.toList with
  | true, true, some xs => match Nat.beq len parts.toList.length, Nat.beq len xs.length, Nat.ble (len * ie.size) 16777216, look bx d with
    | true, true, true, none => .ok ⟨rtsOf E tm (parts.toList.map (·.2)), [], [d], some d, .gl d xs.length, [(d, .lst e ie.size xs)]⟩ .t
    | _, _, _, _ => .stuck
  | _, _, _ => .stuck
def sLit (t : TypeId) (len : Nat) (parts : Array (Nat × Operand)) : Step E :=
  match E.T t with
  | some i => match i.desc with
    | .slc e => match E.T e with
      | some ie => match hh with
        | .gr => sLitG E tm bx d t e len parts i ie
        | _ => sLitV E tm d t len parts i ie
      | none => .stuck
    | _ => .stuck
  | none => .stuck
def sSlice (t : TypeId) (y : Operand) (lo hi : Option Operand) : Step E :=
  match E.T t, evO E tm y with
  | some i, some (.pv (.lst sz xs)) => match i.desc with
    | .slc e => match E.T e, bndO E tm 0 lo, bndO E tm xs.length hi with
      | some ie, some a, some b => match Nat.beq sz ie.size, hh with
        | true, .xs ys => .ok ⟨rtsOf E tm (y :: (lo.toList ++ hi.toList)), [], [], some d, .pv (.lst sz ys), []⟩ (.p (0 ≤ a ∧ a ≤ b ∧ b ≤ xs.length ∧ (xs.take b.toNat).drop a.toNat = ys))
        | true, _ => .ok ⟨rtsOf E tm (y :: (lo.toList ++ hi.toList)), [], [], some d, .pv (.lst sz ((xs.take b.toNat).drop a.toNat)), []⟩ (.p (0 ≤ a ∧ a ≤ b ∧ b ≤ xs.length))
        | _, _ => .stuck
      | _, _, _ => .stuck
    | _ => .stuck
  | some i, some (.pv (.str s)) => match i.desc with
    | .strg => match bndO E tm 0 lo, bndO E tm s.size hi with
      | some a, some b => match hh with
        | .st q => .ok ⟨rtsOf E tm (y :: (lo.toList ++ hi.toList)), [], [], some d, .pv (.str q), []⟩ (.p (0 ≤ a ∧ a ≤ b ∧ b ≤ s.size ∧ s.extract a.toNat b.toNat = q))
        | _ => .ok ⟨rtsOf E tm (y :: (lo.toList ++ hi.toList)), [], [], some d, .pv (.str (s.extract a.toNat b.toNat)), []⟩ (.p (0 ≤ a ∧ a ≤ b ∧ b ≤ s.size))
      | _, _ => .stuck
    | _ => .stuck
  | _, _ => .stuck
/-- The list that a slice is, with what must be shown for it. -/
def lstQ (bx : List (Nat × Box)) : AV → Option (Nat × List PV × Prop)
  | .pv (.lst sz xs) => some (sz, xs, True)
  | .gl b m => match look bx b with
    | some (.lst _ sz xs) => some (sz, xs, m = xs.length)
    | _ => none
  | .pv .nil => some (0, [], True)
  | _ => none
def sIxA (t : TypeId) (y ix : Operand) : Step E :=
  match E.T t, evO E tm y, evO E tm ix with
  | some i, some z, some (.pv (.int k m)) => match i.desc with
    | .slc e => match E.T e, lstQ bx z with
      | some ie, some (sz, xs, p) => match Nat.beq sz ie.size, hh with
        | true, .el x => .ok ⟨rtOf y z ++ rtOf ix (.pv (.int k m)), rbOf bx z, [], some d, .eptr x.cells, []⟩ (.p (p ∧ 0 ≤ m ∧ xs[m.toNat]? = some x))
        | true, _ => match xs[m.toNat]? with
          | some x => .ok ⟨rtOf y z ++ rtOf ix (.pv (.int k m)), rbOf bx z, [], some d, .eptr x.cells, []⟩ (.p (p ∧ 0 ≤ m))
          | none => .stuck
        | _, _ => .stuck
      | _, _ => .stuck
    | .arr len e => match E.T e with
      | some ie => match offO (m.toNat * ie.size) z with
        | some x => .ok ⟨rtOf y z ++ rtOf ix (.pv (.int k m)), [], [], some d, x, []⟩ (.p (0 ≤ m ∧ m < len))
        | none => .stuck
      | none => .stuck
    | _ => .stuck
  | _, _, _ => .stuck
def sIx (t : TypeId) (y ix : Operand) : Step E :=
  match E.T t, evO E tm y, evO E tm ix with
  | some i, some (.pv (.str s)), some (.pv (.int k m)) => match i.desc, hh with
    | .strg, .ch c => .ok ⟨rtOf y (.pv (.str s)) ++ rtOf ix (.pv (.int k m)), [], [], some d, .pv (.int .u8 c.toNat), []⟩ (.p (0 ≤ m ∧ s[m.toNat]? = some c))
    | _, _ => .stuck
  | _, _, _ => .stuck
def sLen (t : TypeId) (y : Operand) : Step E :=
  match E.T t, evO E tm y with
  | some i, some z => match i.desc with
    | .slc e => match lstQ bx z with
      | some (sz, xs, p) => match hh with
        | .w m => .ok ⟨rtOf y z, rbOf bx z, [], some d, .pv (.int .i64 m), []⟩ (.p (p ∧ (xs.length : Int) = m))
        | _ => .ok ⟨rtOf y z, rbOf bx z, [], some d, .pv (.int .i64 xs.length), []⟩ (.p p)
      | none => .stuck
    | .strg => match z with
      | .pv (.str s) => match hh with
        | .w m => .ok ⟨rtOf y (.pv (.str s)), [], [], some d, .pv (.int .i64 m), []⟩ (.p ((s.size : Int) = m))
        | _ => .ok ⟨rtOf y (.pv (.str s)), [], [], some d, .pv (.int .i64 s.size), []⟩ .t
      | _ => .stuck
    | _ => .stuck
  | _, _ => .stuck
def sMin (x y : Operand) : Step E :=
  match evO E tm x, evO E tm y with
  | some (.pv (.int k m)), some (.pv (.int k' j)) => match hh with
    | .w q => .ok ⟨rtOf x (.pv (.int k m)) ++ rtOf y (.pv (.int k' j)), [], [], some d, .pv (.int k q), []⟩ (.p ((if j < m then j else m) = q))
    | _ => .ok ⟨rtOf x (.pv (.int k m)) ++ rtOf y (.pv (.int k' j)), [], [], some d, .pv (.int k (if j < m then j else m)), []⟩ .t
  | _, _ => .stuck
def sMax (x y : Operand) : Step E :=
  match evO E tm x, evO E tm y with
  | some (.pv (.int k m)), some (.pv (.int k' j)) => match hh with
    | .w q => .ok ⟨rtOf x (.pv (.int k m)) ++ rtOf y (.pv (.int k' j)), [], [], some d, .pv (.int k q), []⟩ (.p ((if j > m then j else m) = q))
    | _ => .ok ⟨rtOf x (.pv (.int k m)) ++ rtOf y (.pv (.int k' j)), [], [], some d, .pv (.int k (if j > m then j else m)), []⟩ .t
  | _, _ => .stuck
def sAppend (t : TypeId) (y x : Operand) : Step E :=
  match E.T t, evO E tm y, evO E tm x with
  | some i, some (.gl b m), some z => match i.desc, look bx b, lstQ bx z with
    | .slc e, some (.lst e' sz xs), some (s2, ys, p) => match E.T e with
      | some ie => match Nat.beq e e', Nat.beq s2 sz, Nat.beq sz ie.size, Nat.beq ie.zero.length ie.size, Nat.blt 0 ie.size with
        | true, true, true, true, true => match hh with
          | .xl zs q => .ok ⟨rtOf y (.gl b m) ++ rtOf x z, (b, .lst e sz xs) :: rbOf bx z, [], some d, .gl b q, [(b, .lst e sz zs)]⟩ (.p (p ∧ m = xs.length ∧ (xs.length + ys.length) * ie.bytes ≤ 140737488355328 ∧ xs.length + ys.length ≤ maxLen ∧ xs ++ ys = zs ∧ zs.length = q))
          | .xs zs => .ok ⟨rtOf y (.gl b m) ++ rtOf x z, (b, .lst e sz xs) :: rbOf bx z, [], some d, .gl b zs.length, [(b, .lst e sz zs)]⟩ (.p (p ∧ m = xs.length ∧ (xs.length + ys.length) * ie.bytes ≤ 140737488355328 ∧ xs.length + ys.length ≤ maxLen ∧ xs ++ ys = zs))
          | _ => .ok ⟨rtOf y (.gl b m) ++ rtOf x z, (b, .lst e sz xs) :: rbOf bx z, [], some d, .gl b (xs ++ ys).length, [(b, .lst e sz (xs ++ ys))]⟩ (.p (p ∧ m = xs.length ∧ (xs.length + ys.length) * ie.bytes ≤ 140737488355328 ∧ xs.length + ys.length ≤ maxLen))
        | _, _, _, _, _ => .stuck
      | none => .stuck
    | _, _, _ => .stuck
  | _, _, _ => .stuck
end
section
variable (E : Env) (n : Nat) (tm : List (Nat × AV)) (bx : List (Nat × Box)) (hh : Hint E) (d : Tmp)
/-- The boxes of the lists that are handed over. -/
def rbL (bx : List (Nat × Box)) : List AV → List (Nat × Box)
  | [] => []
  | .gl b m :: l => match look bx b with
    | some B => (b, B) :: rbL bx l
    | none => rbL bx l
  | .agg cs :: l => rbL1 bx cs ++ rbL bx l
  | _ :: l => rbL bx l
where rbL1 (bx : List (Nat × Box)) : List AV → List (Nat × Box)
  | [] => []
  | .gl b m :: l => match look bx b with
    | some B => (b, B) :: rbL1 bx l
    | none => rbL1 bx l
  | _ :: l => rbL1 bx l
/-- The boxes are there as they are told. -/
def allLook (bx : List (Nat × Box)) : List (Nat × Box) → Prop
  | [] => True
  | p :: l => look bx p.1 = some p.2 ∧ allLook bx l
def sCall (c : Operand) (xs : Array Operand) : Step E :=
  match evO E tm c, evsO E tm xs.toList with
  | some (.clo f cs), some as0 => match appO as0 cs with
    | some as1 => match hh with
      | .fn f' args r h => match Nat.beq f f' with
        | true => .ok ⟨rtsOf E tm (c :: xs.toList), rbL bx as1, [], some d, r, []⟩ (.p (AVles ⟨0, [], rbL bx as1⟩ as1 args ∧ closed args = true ∧ d2 r = true))
        | false => .stuck
      | .fnb f' args r bs h => match Nat.beq f f' with
        | true => match freeB 0 bx bs with
          | true => .ok ⟨rtsOf E tm (c :: xs.toList), rbL bx as1, bs.map (fun p => p.1), some d, r, bs⟩ (.p (AVles ⟨0, [], rbL bx as1⟩ as1 args ∧ closed args = true ∧ d2 r = true ∧ dBs bs = true ∧ lnFree 0 E.g.ln bs = true))
          | false => .ok ⟨rtsOf E tm (c :: xs.toList), rbL bx as1, bs.map (fun p => p.1 + (d + 1) * 1000), some d, sh3 ((d + 1) * 1000) r, shBs ((d + 1) * 1000) bs⟩ (.p (AVles ⟨0, [], rbL bx as1⟩ as1 args ∧ closed args = true ∧ d2 r = true ∧ dBs bs = true ∧ freeB ((d + 1) * 1000) bx bs = true ∧ lnFree ((d + 1) * 1000) E.g.ln bs = true))
        | false => .stuck
      | .ln ln f' args bi r bo h => match Nat.beq f f' with
        | true => .ok ⟨rtsOf E tm (c :: xs.toList), rbL bx as1 ++ bi, [], some d, r, bo⟩ (.p (AVles ⟨0, [], rbL bx as1⟩ as1 args ∧ args.all (men3 bi) = true ∧ allLook bx bi ∧ (mbx bi bi && (lnVars bi ln && (lnNew ln E.g.ln bo && (klOk ln bo (klOf ln bo) && ((bi.all fun p => has (klOf ln bo) p.1) && (bo.all fun p => has bi p.1)))))) = true))
        | false => .stuck
      | _ => .stuck
    | none => .stuck
  | _, _ => .stuck
def sFunc (f : FuncId) (cap : Array Operand) : Step E :=
  match evsO E tm cap.toList with
  | some cs => .ok ⟨rtsOf E tm cap.toList, [], [], some d, .clo f cs, []⟩ .t
  | none => .stuck
def sRange (t : TypeId) (y : Operand) : Step E :=
  match E.T t, evO E tm y with
  | some i, some (.pv (.str s)) => match i.desc, look bx d, inN E.g.ln d with
    | .strg, none, false => .ok ⟨rtOf y (.pv (.str s)), [], [d], some d, .ptr d 0, [(d, .iter s 0)]⟩ .t
    | _, _, _ => .stuck
  | _, _ => .stuck
def sNext (y : Operand) : Step E :=
  match evO E tm y with
  | some (.ptr b 0) => match look bx b, hh with
    | some (.iter s p), .nx c wd => .ok ⟨rtOf y (.ptr b 0), [(b, .iter s p)], [], some d, .tup [.pv (.bool true), .pv (.int .i64 p), .pv (.int .i32 c)], [(b, .iter s (p + wd))]⟩ (.p (p < s.size ∧ Utf8.decode s p = (c, wd)))
    | some (.iter s p), .nf => .ok ⟨rtOf y (.ptr b 0), [(b, .iter s p)], [], some d, .tup [.pv (.bool false)], []⟩ (.p (¬ p < s.size))
    | _, _ => .stuck
  | _ => .stuck
def zAgg (P : Program) (t : TypeId) : Bool :=
  match P.info? t with
  | some inf => match inf.zero with
    | some (.agg _) => true
    | _ => false
  | none => false
def sTA (y : Operand) (aT : TypeId) : Step E :=
  match evO E tm y, E.T aT with
  | some (.pv (.ifc t (.agg ps))), some i => match i.desc, Nat.beq t aT with
    | .str, true => match pvsO ps with
      | some cs => .ok ⟨rtOf y (.pv (.ifc t (.agg ps))), [], [], some d, .tup [.agg cs, .pv (.bool true)], []⟩ .t
      | none => .stuck
    | .str, false => match pvsO i.zero with
      | some zs => .ok ⟨rtOf y (.pv (.ifc t (.agg ps))), [], [], some d, .tup [.agg zs, .pv (.bool false)], []⟩ (.p (zAgg E.P aT = true))
      | none => .stuck
    | _, _ => .stuck
  | _, _ => .stuck
def sIfc (t : TypeId) (y : Operand) : Step E :=
  match E.T t, evO E tm y with
  | some i, some (.agg cs) => match i.desc, unpv cs with
    | .str, some ps => match onesP ps with
      | true => .ok ⟨rtOf y (.agg cs), [], [], some d, .pv (.ifc t (.agg ps)), []⟩ .t
      | false => .stuck
    | _, _ => .stuck
  | _, _ => .stuck
def sInv (c : Operand) (name : String) (xs : Array Operand) : Step E :=
  match evO E tm c, xs.toList, hh with
  | some (.pv (.ifc t (.agg ps))), [y], .inv t' name' f args r hm h => match evO E tm y with
    | some z => .ok ⟨rtsOf E tm [c, y], rbL bx [z], [], some d, r, []⟩ (.p (t = t' ∧ name = name' ∧ AVles ⟨0, [], rbL bx [z]⟩ [.agg (ps.map .pv), z] args ∧ closed args = true ∧ d2 r = true))
    | none => .stuck
  | _, _, _ => .stuck
def sBuiltin (b : Builtin) (xs : List Operand) (ts : List TypeId) : Step E :=
  match b, xs, ts with
  | .len, [y], [t] => sLen E tm bx hh d t y
  | .min, [x, y], _ => sMin E tm hh d x y
  | .max, [x, y], _ => sMax E tm hh d x y
  | .append, [y, x], [t, t'] => match Nat.beq t t' with
    | true => sAppend E tm bx hh d t y x
    | false => .stuck
  | _, _, _ => .stuck
def sOp (op : Op) : Step E :=
  match op with
  | .move y => sMove E tm d y
  | .assign y => sMove E tm d y
  | .pick c y z => sPick E tm d c y z
  | .alloc t => sAlloc E bx d t
  | .box t y => sBox E tm bx d y
  | .build t ps => sBuild E tm d t ps
  | .buildSlice t len ps => sLit E tm bx hh d t len ps
  | .load t y => sLoad E tm bx d t y
  | .nilCheck y => sNil E tm d y
  | .fieldAddr t y f => sField E tm d t y f
  | .extract y j => sExtract E tm d y j
  | .binOp b t y z t' => sBin E tm hh d b t y z
  | .unOp b t y => sUn E tm hh d b y
  | .convert sr t y => sConv E tm hh d sr t y
  | .slice t y lo hi none => sSlice E tm hh d t y lo hi
  | .indexAddr t y ix => sIxA E tm bx hh d t y ix
  | .index t y ix => sIx E tm hh d t y ix
  | .makeFunc fn first cap => match fn, first.toList with
    | .func f, [] => sFunc E tm d f cap
    | _, _ => .stuck
  | .range t y => sRange E tm bx d t y
  | .next y true => sNext E tm bx hh d y
  | .makeInterface t y => sIfc E tm d t y
  | .typeAssert y _ aT true => sTA E tm d y aT
  | .call ⟨callee, xs, ts⟩ => match callee with
    | .builtin b => sBuiltin E tm bx hh d b xs.toList ts.toList
    | .value c => sCall E tm bx hh d c xs
    | .invoke c name => sInv E tm bx hh d c name xs
  | _ => .stuck
def step (hs : List (Nat × Hint E)) (dst : Option Tmp) (op : Op) : Step E :=
  match dst with
  | some d => match Nat.blt d n with
    | true => match look hs d with
      | some hh => sOp E tm bx hh d op
      | none => sOp E tm bx .d d op
    | false => .stuck
  | none => match op with
    | .store t y x => sStore E tm bx t y x
    | _ => .stuck
end
section
variable {E : Env} {n : Nat} {tm : List (Nat × AV)} {bx : List (Nat × Box)} {hh : Hint E} {hs : List (Nat × Hint E)} {d : Tmp} {r : Rec} {ob : Ob} {ops : Array Oper} {ty : TypeId} {pos : String} {after : Array Edge}
/-- What is asked of a step: the operation is as it is told. -/
def Fits (E : Env) (n : Nat) (tm : List (Nat × AV)) (bx : List (Nat × Box)) (ops : Array Oper) (o : Oper) (r : Rec) : Prop := RecOk E.P E.g ops o r ∧ r.Met ⟨n, tm, bx⟩
theorem sMove_ok {y : Operand} (h : sMove E tm d y = .ok r ob) (ho : ob.holds) (hd : Nat.blt d n = true) : Fits E n tm bx ops ⟨some d, .move y, ty, pos, after, none⟩ r := by
  unfold sMove at h
  split at h
  · rename_i x hx
    obtain ⟨rfl, rfl⟩ := Step.ok.inj h
    exact good_of fun Θ k => D.move hx hd k
  · cases h
theorem sMove_ok2 {y : Operand} (h : sMove E tm d y = .ok r ob) (ho : ob.holds) (hd : Nat.blt d n = true) : Fits E n tm bx ops ⟨some d, .assign y, ty, pos, after, none⟩ r := by
  unfold sMove at h
  split at h
  · rename_i x hx
    obtain ⟨rfl, rfl⟩ := Step.ok.inj h
    exact good_of fun Θ k => D.assign hx hd k
  · cases h
theorem sPick_ok {c y z : Operand} (h : sPick E tm d c y z = .ok r ob) (ho : ob.holds) (hd : Nat.blt d n = true) : Fits E n tm bx ops ⟨some d, .pick c y z, ty, pos, after, none⟩ r := by
  unfold sPick at h
  split at h
  · rename_i u v h1 h2 h3
    obtain ⟨rfl, rfl⟩ := Step.ok.inj h
    exact good_of fun Θ k => D.pick h1 h2 h3 rfl hd k
  · rename_i u v h1 h2 h3
    obtain ⟨rfl, rfl⟩ := Step.ok.inj h
    exact good_of fun Θ k => D.pick h1 h2 h3 rfl hd k
  · cases h
theorem sAlloc_ok {t : TypeId} (hE : E.Ok) (h : sAlloc E bx d t = .ok r ob) (ho : ob.holds) (hd : Nat.blt d n = true) : Fits E n tm bx ops ⟨some d, .alloc t, ty, pos, after, none⟩ r := by
  unfold sAlloc at h
  split at h
  · rename_i i h1
    split at h
    · rename_i cs h2 h3 h4
      obtain ⟨rfl, rfl⟩ := Step.ok.inj h
      exact good_of fun Θ k => D.alloc hE d h1 h2 h3 hd k h4
    · cases h
  · cases h
theorem sBox_ok {t : TypeId} {y : Operand} (h : sBox E tm bx d y = .ok r ob) (ho : ob.holds) (hd : Nat.blt d n = true) : Fits E n tm bx ops ⟨some d, .box t y, ty, pos, after, none⟩ r := by
  unfold sBox at h
  split at h
  · rename_i z h1
    split at h
    · rename_i cs h2 h3 h4
      obtain ⟨rfl, rfl⟩ := Step.ok.inj h
      exact good_of fun Θ k => D.box d h1 h2 h3 hd k h4
    · cases h
  · cases h
theorem X.rts_tail {x : Operand} {xs : List Operand} {p : Nat × AV} (hp : p ∈ rtsOf E tm xs) : p ∈ rtsOf E tm (x :: xs) := by
  cases x with
  | tmp t =>
    simp only [rtsOf]
    split
    · exact List.mem_cons_of_mem _ hp
    · exact hp
  | const v => exact hp
  | global k => exact hp
  | func f => exact hp
theorem X.fillO_mono {place : Nat → Option (Nat × Nat)} {s : St} : ∀ (ps : List (Nat × Operand)) (cells r : List AV), fillO E place tm cells ps = some r → (∀ p ∈ rtsOf E tm (ps.map (·.2)), look s.tm p.1 = some p.2) → fillO E place s.tm cells ps = some r
  | [], cells, r, h, _ => h
  | (i, x) :: rest, cells, r, h, hs => by
    simp only [fillO] at h ⊢
    split at h
    · rename_i off size ys h1 h2
      split at h
      · rename_i c h3 h4
        rw [Option.bind_eq_some_iff] at h2
        obtain ⟨y, hy, h2⟩ := h2
        have e1 : evO E s.tm x = some y := by
          cases x with
          | tmp t => exact hs (t, y) (by simp only [List.map_cons, rtsOf]; rw [show look tm t = some y from hy]; simp)
          | const v => exact hy
          | global k => exact hy
          | func f => exact hy
        have e2 := X.fillO_mono (s := s) rest c r h (fun p hp => hs p (by rw [List.map_cons]; exact X.rts_tail hp))
        rw [h1, e1]
        simp only [Option.bind_some, h2, h3, h4]
        exact e2
      · cases h
    · cases h
theorem X.build {Θ : List Rec → St → Prop} {l : List Oper} {t : TypeId} {parts : Array (Nat × Operand)} {i : TI} {ls : List (Nat × Nat)} {zs cs : List AV} (hE : E.Ok) (ht : E.T t = some i) (hl : E.L t = some ls) (hz : pvsO i.zero = some zs) (hf : fillO E (fun j => ls[j]?) tm zs parts.toList = some cs) (hd : Nat.blt d n = true)
    (h : Dr E.P E.g ops l ⟨n, (d, .agg cs) :: tm, bx⟩ (fun rs => Θ (⟨rtsOf E tm (parts.toList.map (·.2)), [], [], some d, .agg cs, []⟩ :: rs))) : Dr E.P E.g ops (⟨some d, .build t parts, ty, pos, after, none⟩ :: l) ⟨n, tm, bx⟩ Θ :=
  D.of (rt := rtsOf E tm (parts.toList.map (·.2))) (rb := []) (rts_now _) none_met hd (fun s hs _ hd' => OpOk.build (s := s) (hE.t _ _ ht) (hE.l _ _ hl) (by rw [← pvsO_ok _ _ hz]; exact fillO_ok (n := s.n) (tm := s.tm) (bx := s.bx) _ _ _ (X.fillO_mono _ _ _ hf hs)) (fun t ht => by obtain rfl := Option.some.inj ht; exact hd')) h
theorem sBuild_ok {t : TypeId} {parts : Array (Nat × Operand)} (hE : E.Ok) (h : sBuild E tm d t parts = .ok r ob) (ho : ob.holds) (hd : Nat.blt d n = true) : Fits E n tm bx ops ⟨some d, .build t parts, ty, pos, after, none⟩ r := by
  unfold sBuild at h
  split at h
  · rename_i i ls h1 h2
    split at h
    · rename_i zs h3
      split at h
      · rename_i cs h4
        obtain ⟨rfl, rfl⟩ := Step.ok.inj h
        exact good_of fun Θ k => X.build hE h1 h2 h3 h4 hd k
      · cases h
    · cases h
  · cases h
theorem sLoad_ok {t : TypeId} {y : Operand} (hE : E.Ok) (h : sLoad E tm bx d t y = .ok r ob) (ho : ob.holds) (hd : Nat.blt d n = true) : Fits E n tm bx ops ⟨some d, .load t y, ty, pos, after, none⟩ r := by
  unfold sLoad at h
  split at h
  · rename_i i z h1 h2
    split at h
    · rename_i cs h3
      split at h
      · rename_i x h4
        obtain ⟨rfl, rfl⟩ := Step.ok.inj h
        exact good_of fun Θ k => D.load hE h1 h2 h3 h4 hd k
      · cases h
    · cases h
  · cases h
theorem sStore_ok {t : TypeId} {y x : Operand} (hE : E.Ok) (h : sStore E tm bx t y x = .ok r ob) (ho : ob.holds) : Fits E n tm bx ops ⟨none, .store t y x, ty, pos, after, none⟩ r := by
  unfold sStore at h
  split at h
  · rename_i i b o z h1 h2 h3
    split at h
    · rename_i ys cs h4 h5
      split at h
      · rename_i cs' h6 h7
        obtain ⟨rfl, rfl⟩ := Step.ok.inj h
        exact good_of fun Θ k => D.store hE h1 h2 h3 h4 h5 h6 h7 k
      · cases h
    · cases h
  · cases h
theorem sNil_ok {y : Operand} (h : sNil E tm d y = .ok r ob) (ho : ob.holds) (hd : Nat.blt d n = true) : Fits E n tm bx ops ⟨some d, .nilCheck y, ty, pos, after, none⟩ r := by
  unfold sNil at h
  split at h
  · rename_i b o h1
    obtain ⟨rfl, rfl⟩ := Step.ok.inj h
    exact good_of fun Θ k => D.of (rt := rtOf y (.ptr b o)) (rb := []) (rt_now h1) none_met hd (fun s hs _ hd' => OpOk.nilCheck (s := s) (evO_ok (n := s.n) (bx := s.bx) (rt_ev h1 hs)) (fun t ht => by obtain rfl := Option.some.inj ht; exact hd')) k
  · cases h
theorem sField_ok {t : TypeId} {y : Operand} {f : Nat} (hE : E.Ok) (h : sField E tm d t y f = .ok r ob) (ho : ob.holds) (hd : Nat.blt d n = true) : Fits E n tm bx ops ⟨some d, .fieldAddr t y f, ty, pos, after, none⟩ r := by
  unfold sField at h
  split at h
  · rename_i ls h1
    split at h
    · rename_i k m h2
      split at h
      · rename_i z h3
        split at h
        · rename_i x h4
          obtain ⟨rfl, rfl⟩ := Step.ok.inj h
          exact good_of fun Θ k => D.field hE h1 h2 h3 h4 hd k
        · cases h
      · cases h
    · cases h
  · cases h
theorem sExtract_ok {y : Operand} {j : Nat} (h : sExtract E tm d y j = .ok r ob) (ho : ob.holds) (hd : Nat.blt d n = true) : Fits E n tm bx ops ⟨some d, .extract y j, ty, pos, after, none⟩ r := by
  unfold sExtract at h
  split at h
  · rename_i xs h1
    split at h
    · rename_i x h2
      obtain ⟨rfl, rfl⟩ := Step.ok.inj h
      exact good_of fun Θ k => D.extract h1 h2 hd k
    · cases h
  · cases h
theorem X.quo {Θ : List Rec → St → Prop} {l : List Oper} {t t' : TypeId} {y z : Operand} {k : IntKind} {m j q : Int} (hy : evO E tm y = some (.pv (.int k m))) (hz : evO E tm z = some (.pv (.int k j))) (hj : j ≠ 0) (hq : k.wrap (m.tdiv j) = q) (hd : Nat.blt d n = true)
    (h : Dr E.P E.g ops l ⟨n, (d, .pv (.int k q)) :: tm, bx⟩ (fun rs => Θ (⟨rtOf y (.pv (.int k m)) ++ rtOf z (.pv (.int k j)), [], [], some d, .pv (.int k q), []⟩ :: rs))) : Dr E.P E.g ops (⟨some d, .binOp .quo t y z t', ty, pos, after, none⟩ :: l) ⟨n, tm, bx⟩ Θ := by
  subst hq
  refine D.bin (v := .int k (k.wrap (m.tdiv j))) hy hz rfl rfl (now_bin ?_) rfl hd h
  simp only [Go.binOp, ne_eq, not_true, if_false, Op.intDiv]
  rw [if_neg hj]; rfl
theorem X.rem {Θ : List Rec → St → Prop} {l : List Oper} {t t' : TypeId} {y z : Operand} {k : IntKind} {m j q : Int} (hy : evO E tm y = some (.pv (.int k m))) (hz : evO E tm z = some (.pv (.int k j))) (hj : j ≠ 0) (hq : m.tmod j = q) (hd : Nat.blt d n = true)
    (h : Dr E.P E.g ops l ⟨n, (d, .pv (.int k q)) :: tm, bx⟩ (fun rs => Θ (⟨rtOf y (.pv (.int k m)) ++ rtOf z (.pv (.int k j)), [], [], some d, .pv (.int k q), []⟩ :: rs))) : Dr E.P E.g ops (⟨some d, .binOp .rem t y z t', ty, pos, after, none⟩ :: l) ⟨n, tm, bx⟩ Θ := by
  subst hq
  refine D.bin (v := .int k (m.tmod j)) hy hz rfl rfl (now_bin ?_) rfl hd h
  simp only [Go.binOp, ne_eq, not_true, if_false, Op.intDiv]
  rw [if_neg hj]; rfl
theorem sInt_ok {b : BinOp} {y z : Operand} {k k' : IntKind} {m j : Int} {t t' : TypeId} (hy : evO E tm y = some (.pv (.int k m))) (hz : evO E tm z = some (.pv (.int k' j))) (h : sInt E hh d b y z k k' m j = .ok r ob) (ho : ob.holds) (hd : Nat.blt d n = true) : Fits E n tm bx ops ⟨some d, .binOp b t y z t', ty, pos, after, none⟩ r := by
  unfold sInt at h
  split at h
  · rename_i hk
    obtain rfl := ikN_eq hk
    split at h
    · rename_i q hq
      split at h
      · obtain ⟨rfl, rfl⟩ := Step.ok.inj h
        exact good_of fun Θ w => D.ar hy hz hq ho hd w
      · obtain ⟨p, h1, h2⟩ := inKs_ok h
        obtain ⟨rfl, rfl⟩ := Step.ok.inj h1
        exact good_of fun Θ w => D.ar hy hz hq (h2 ho) hd w
    · split at h
      · split at h
        · rename_i p hp
          obtain ⟨rfl, rfl⟩ := Step.ok.inj h
          exact good_of fun Θ w => D.cmp hy hz (cmpQ_ok hp ho) rfl hd w
        · cases h
      · split at h
        · obtain ⟨rfl, rfl⟩ := Step.ok.inj h
          exact good_of fun Θ w => X.quo hy hz ho.1 ho.2 hd w
        · obtain ⟨rfl, rfl⟩ := Step.ok.inj h
          exact good_of fun Θ w => X.rem hy hz ho.1 ho.2 hd w
        · split at h
          · rename_i q hq
            obtain ⟨rfl, rfl⟩ := Step.ok.inj h
            subst ho
            exact good_of fun Θ w => D.bit hy hz hq hd w
          · split at h
            · obtain ⟨rfl, rfl⟩ := Step.ok.inj h
              obtain ⟨h1, rfl⟩ := ho
              exact good_of fun Θ w => D.shl hy hz h1 hd w
            · obtain ⟨rfl, rfl⟩ := Step.ok.inj h
              obtain ⟨h1, rfl⟩ := ho
              exact good_of fun Θ w => D.shr hy hz h1 hd w
            · cases h
      · split at h
        · rename_i c hc
          obtain ⟨rfl, rfl⟩ := Step.ok.inj h
          exact good_of fun Θ w => D.cmp hy hz hc rfl hd w
        · cases h
  · split at h
    · obtain ⟨rfl, rfl⟩ := Step.ok.inj h
      obtain ⟨h1, rfl⟩ := ho
      exact good_of fun Θ w => D.shl hy hz h1 hd w
    · obtain ⟨rfl, rfl⟩ := Step.ok.inj h
      obtain ⟨h1, rfl⟩ := ho
      exact good_of fun Θ w => D.shr hy hz h1 hd w
    · cases h
theorem sTruth_ok {rt : List (Nat × AV)} {v : Bool} (h : sTruth E hh d rt v = .ok r ob) (ho : ob.holds) : r = ⟨rt, [], [], some d, .pv (.bool v), []⟩ := by
  unfold sTruth at h
  split at h <;> obtain ⟨rfl, rfl⟩ := Step.ok.inj h
  · subst ho; rfl
  · rfl
theorem X.cat {Θ : List Rec → St → Prop} {l : List Oper} {t t' : TypeId} {y z : Operand} {s s' q : ByteArray} (hy : evO E tm y = some (.pv (.str s))) (hz : evO E tm z = some (.pv (.str s'))) (hj : s.size + s'.size ≤ 9223372036854775807) (hq : s ++ s' = q) (hd : Nat.blt d n = true)
    (h : Dr E.P E.g ops l ⟨n, (d, .pv (.str q)) :: tm, bx⟩ (fun rs => Θ (⟨rtOf y (.pv (.str s)) ++ rtOf z (.pv (.str s')), [], [], some d, .pv (.str q), []⟩ :: rs))) : Dr E.P E.g ops (⟨some d, .binOp .add t y z t', ty, pos, after, none⟩ :: l) ⟨n, tm, bx⟩ Θ := by
  subst hq
  refine D.bin (v := .string (s ++ s')) hy hz rfl rfl ?_ rfl hd h
  have hm : ¬ (((s.size + s'.size : Nat) : Int) > IntKind.i64.max) := by
    have : IntKind.i64.max = 9223372036854775807 := by decide
    rw [this]; omega
  show Vm.now E.P (Op.stringOp .add s s') = _
  unfold Op.stringOp
  simp only
  rw [if_neg hm]
  rfl
theorem sStr_ok {b : BinOp} {y z : Operand} {s s' : ByteArray} {t t' : TypeId} (hy : evO E tm y = some (.pv (.str s))) (hz : evO E tm z = some (.pv (.str s'))) (h : sStr E hh d b y z s s' = .ok r ob) (ho : ob.holds) (hd : Nat.blt d n = true) : Fits E n tm bx ops ⟨some d, .binOp b t y z t', ty, pos, after, none⟩ r := by
  unfold sStr at h
  split at h
  · split at h
    · obtain ⟨rfl, rfl⟩ := Step.ok.inj h
      exact good_of fun Θ w => X.cat hy hz ho.1 ho.2 hd w
    · obtain ⟨rfl, rfl⟩ := Step.ok.inj h
      exact good_of fun Θ w => X.cat hy hz ho rfl hd w
  · obtain rfl := sTruth_ok h ho
    exact good_of fun Θ w => D.bin (v := .bool (s.toList == s'.toList)) hy hz rfl rfl rfl rfl hd w
  · obtain rfl := sTruth_ok h ho
    exact good_of fun Θ w => D.bin (v := .bool (!(s.toList == s'.toList))) hy hz rfl rfl rfl rfl hd w
  · obtain rfl := sTruth_ok h ho
    exact good_of fun Θ w => D.bin (v := .bool (Op.bytesLess s.toList s'.toList)) hy hz rfl rfl rfl rfl hd w
  · obtain rfl := sTruth_ok h ho
    exact good_of fun Θ w => D.bin (v := .bool (Op.bytesLess s.toList s'.toList || s.toList == s'.toList)) hy hz rfl rfl rfl rfl hd w
  · obtain rfl := sTruth_ok h ho
    exact good_of fun Θ w => D.bin (v := .bool (!(Op.bytesLess s.toList s'.toList || s.toList == s'.toList))) hy hz rfl rfl rfl rfl hd w
  · obtain rfl := sTruth_ok h ho
    exact good_of fun Θ w => D.bin (v := .bool (!(Op.bytesLess s.toList s'.toList))) hy hz rfl rfl rfl rfl hd w
  · cases h
theorem X.eqB {Θ : List Rec → St → Prop} {l : List Oper} {t t' : TypeId} {y z : Operand} {p p' c : Bool} {i : TI} (pos' : Bool) (hE : E.Ok) (ht : E.T t = some i) (hk : i.desc = .bool) (hy : evO E tm y = some (.pv (.bool p))) (hz : evO E tm z = some (.pv (.bool p'))) (hc : (if pos' then p == p' else !(p == p')) = c) (hd : Nat.blt d n = true)
    (h : Dr E.P E.g ops l ⟨n, (d, .pv (.bool c)) :: tm, bx⟩ (fun rs => Θ (⟨rtOf y (.pv (.bool p)) ++ rtOf z (.pv (.bool p')), [], [], some d, .pv (.bool c), []⟩ :: rs))) : Dr E.P E.g ops (⟨some d, .binOp (if pos' then .eql else .neq) t y z t', ty, pos, after, none⟩ :: l) ⟨n, tm, bx⟩ Θ := by
  refine D.of (rt := rtOf y (.pv (.bool p)) ++ rtOf z (.pv (.bool p'))) (rb := []) (fun w hw => (List.mem_append.1 hw).elim (rt_now hy w) (rt_now hz w)) none_met hd (fun s hs _ hd' => ?_) h
  refine OpOk.val (o := ⟨some d, .binOp (if pos' then .eql else .neq) t y z t', ty, pos, after, none⟩) (s := s) (fun t ht => by obtain rfl := Option.some.inj ht; exact hd') (fun cx a w G hP hg hs' => ⟨.bool c, ?_, .pv _ _ (.bool _)⟩)
  have h1 := hs'.ev hg y
  have h2 := hs'.ev hg z
  rw [evO_ok (n := s.n) (bx := s.bx) (rt_ev hy (fun p hp => hs p (mem_l hp)))] at h1
  rw [evO_ok (n := s.n) (bx := s.bx) (rt_ev hz (fun p hp => hs p (mem_r hp)))] at h2
  have e1 : a.eval y = .bool p := h1.of_val rfl
  have e2 : a.eval z = .bool p' := h2.of_val rfl
  obtain ⟨ds, u1, u2⟩ := tiOf_und (hE.t _ _ ht)
  rw [hk] at u2
  have u3 : ds = .bool := by cases ds <;> simp [kOf] at u2 ⊢
  subst u3
  subst hc
  have hq : (Op.equalIn Op.maxDepth t (.bool p) (.bool p')).run E.P w = .ok (p == p') w := by
    rw [show Op.maxDepth = 9999 + 1 from rfl]
    unfold Op.equalIn
    rw [Sem.run_bind, run_underlying u1 w]
    rfl
  cases pos' <;> simp [execOp, e1, e2, eqGuard, Go.binOp, Op.equal, hq, Result.andThen_ok]
theorem X.eqOp {P : Program} {g : Gb} {s : St} {dst : Option Tmp} {t t' : TypeId} {y z : Operand} {gd : Option (Nat × Bool)} {cs ds : List AV} {us vs : List Value} {r c : Bool} (b : Bool) (hy : s.ev g y = .agg cs) (hz : s.ev g z = .agg ds) (hv : vals? cs = some us) (hv2 : vals? ds = some vs) (hg0 : P.eqGuardType P.depth t = false) (hq : ∀ w, (Op.equalIn 10000 t (.agg us.toArray) (.agg vs.toArray)).run P w = .ok r w) (hc : (if b then r else !r) = c)
    (hd : ∀ t, dst = some t → t < s.n) : OpOk P g ⟨dst, .binOp (if b then .eql else .neq) t y z t', ty, pos, after, gd⟩ s (s.putO dst (.pv (.bool c))) := by
  refine OpOk.val (o := ⟨dst, .binOp (if b then .eql else .neq) t y z t', ty, pos, after, gd⟩) hd (fun cx a w G hP hg hs => ⟨.bool c, ?_, .pv _ _ (.bool _)⟩)
  have h1 := hs.ev hg y
  have h2 := hs.ev hg z
  rw [hy] at h1
  rw [hz] at h2
  have e1 : a.eval y = .agg us.toArray := h1.of_flat (by simp [AV.flat?, hv])
  have e2 : a.eval z = .agg vs.toArray := h2.of_flat (by simp [AV.flat?, hv2])
  subst hP
  subst hc
  cases b
  · simp only [execOp, e1, e2, Sem.run_bind, Bool.false_eq_true, if_false, run_eqGuard_agg (P := cx.P) w .neq t y z _ _ hg0, Result.andThen_ok, run_neq_struct, hq w, Sem.run_pure]
  · simp only [execOp, e1, e2, Sem.run_bind, if_true, run_eqGuard_agg (P := cx.P) w .eql t y z _ _ hg0, Result.andThen_ok, run_eql_struct, hq w, Sem.run_pure]
theorem X.eqAgg {Θ : List Rec → St → Prop} {l : List Oper} {t t' : TypeId} {y z : Operand} {cs ds : List AV} {us vs : List Value} {r c : Bool} (b : Bool) (hy : evO E tm y = some (.agg cs)) (hz : evO E tm z = some (.agg ds)) (hv : vals? cs = some us) (hv2 : vals? ds = some vs) (hg0 : E.P.eqGuardType E.P.depth t = false) (hq : ∀ w, (Op.equalIn 10000 t (.agg us.toArray) (.agg vs.toArray)).run E.P w = .ok r w) (hc : (if b then r else !r) = c) (hd : Nat.blt d n = true)
    (h : Dr E.P E.g ops l ⟨n, (d, .pv (.bool c)) :: tm, bx⟩ (fun rs => Θ (⟨rtOf y (.agg cs) ++ rtOf z (.agg ds), [], [], some d, .pv (.bool c), []⟩ :: rs))) : Dr E.P E.g ops (⟨some d, .binOp (if b then .eql else .neq) t y z t', ty, pos, after, none⟩ :: l) ⟨n, tm, bx⟩ Θ :=
  D.of (rt := rtOf y (.agg cs) ++ rtOf z (.agg ds)) (rb := []) (fun w hw => (List.mem_append.1 hw).elim (rt_now hy w) (rt_now hz w)) none_met hd (fun s hs _ hd' => X.eqOp (s := s) b (evO_ok (n := s.n) (bx := s.bx) (rt_ev hy (fun p hp => hs p (mem_l hp)))) (evO_ok (n := s.n) (bx := s.bx) (rt_ev hz (fun p hp => hs p (mem_r hp)))) hv hv2 hg0 hq hc (fun t ht => by obtain rfl := Option.some.inj ht; exact hd')) h
theorem X.now_flt {P : Program} {b : BinOp} {t : TypeId} {y z : Operand} {m j : Nat} {r : Bool} (h : Vm.now P (Go.binOp b t (.float .f64 m) (.float .f64 j)) = some (.bool r)) : Vm.now P (do eqGuard b t y z (.float .f64 m) (.float .f64 j); Go.binOp b t (.float .f64 m) (.float .f64 j)) = some (.bool r) := by
  have e : eqGuard b t y z (.float .f64 m) (.float .f64 j) = pure () := by cases b <;> rfl
  rw [e]
  exact h
theorem sBin_ok {b : BinOp} {y z : Operand} {t t' : TypeId} (hE : E.Ok) (h : sBin E tm hh d b t y z = .ok r ob) (ho : ob.holds) (hd : Nat.blt d n = true) : Fits E n tm bx ops ⟨some d, .binOp b t y z t', ty, pos, after, none⟩ r := by
  unfold sBin at h
  split at h
  · rename_i cs ds h1 h2
    unfold sAgg at h
    split at h
    · rename_i t' us vs q c hg hq
      split at h
      · rename_i us' vs' g1 g2 g3
        obtain rfl := Nat.eq_of_beq_eq_true g1
        obtain ⟨rfl, rfl⟩ := Step.ok.inj h
        obtain ⟨rfl, rfl, e⟩ := ho
        exact good_of fun Θ w => X.eqAgg true h1 h2 g2 g3 hg hq e hd w
      · rename_i us' vs' g1 g2 g3
        obtain rfl := Nat.eq_of_beq_eq_true g1
        obtain ⟨rfl, rfl⟩ := Step.ok.inj h
        obtain ⟨rfl, rfl, e⟩ := ho
        exact good_of fun Θ w => X.eqAgg false h1 h2 g2 g3 hg hq e hd w
      · cases h
    · cases h
  · rename_i m j h1 h2
    unfold sFlt at h
    split at h
    · obtain rfl := sTruth_ok h ho
      exact good_of fun Θ w => D.bin (v := .bool (FloatKind.f64.format.order m j == some .eq)) h1 h2 rfl rfl (X.now_flt rfl) rfl hd w
    · obtain rfl := sTruth_ok h ho
      exact good_of fun Θ w => D.bin (v := .bool (FloatKind.f64.format.order m j != some .eq)) h1 h2 rfl rfl (X.now_flt rfl) rfl hd w
    · obtain rfl := sTruth_ok h ho
      exact good_of fun Θ w => D.bin (v := .bool (FloatKind.f64.format.order m j == some .lt)) h1 h2 rfl rfl (X.now_flt rfl) rfl hd w
    · obtain rfl := sTruth_ok h ho
      exact good_of fun Θ w => D.bin (v := .bool (FloatKind.f64.format.order m j == some .gt)) h1 h2 rfl rfl (X.now_flt rfl) rfl hd w
    · cases h
  · rename_i k m k' j h1 h2
    exact sInt_ok h1 h2 h ho hd
  · rename_i s s' h1 h2
    exact sStr_ok h1 h2 h ho hd
  · rename_i p q h1 h2
    unfold sBool at h
    split at h
    · rename_i i h3
      split at h
      · rename_i hb
        obtain rfl := sTruth_ok h ho
        exact good_of fun Θ w => X.eqB true hE h3 hb h1 h2 rfl hd w
      · rename_i hb
        obtain rfl := sTruth_ok h ho
        exact good_of fun Θ w => X.eqB false hE h3 hb h1 h2 rfl hd w
      · cases h
    · cases h
  · cases h
theorem sUn_ok {b : UnOp} {y : Operand} {t : TypeId} (h : sUn E tm hh d b y = .ok r ob) (ho : ob.holds) (hd : Nat.blt d n = true) : Fits E n tm bx ops ⟨some d, .unOp b t y, ty, pos, after, none⟩ r := by
  unfold sUn at h
  split at h
  · rename_i p h1
    obtain ⟨rfl, rfl⟩ := Step.ok.inj h
    exact good_of fun Θ w => D.un (v := .bool (!p)) h1 rfl rfl rfl hd w
  · rename_i k m h1
    split at h
    · obtain ⟨rfl, rfl⟩ := Step.ok.inj h
      exact good_of fun Θ w => D.un (v := .int k _) h1 rfl (by show some (Value.int k (k.wrap (0 - m))) = _; rw [ho]) rfl hd w
    obtain ⟨p, h2, h3⟩ := inKs_ok h
    obtain ⟨rfl, rfl⟩ := Step.ok.inj h2
    have e : k.wrap (0 - m) = -m := by rw [Int.zero_sub]; exact h3 ho
    exact good_of fun Θ w => D.un (v := .int k (-m)) h1 rfl (by show some (Value.int k (k.wrap (0 - m))) = _; rw [e]) rfl hd w
  · cases h
theorem sConv_ok {sr t : TypeId} {y : Operand} (hE : E.Ok) (h : sConv E tm hh d sr t y = .ok r ob) (ho : ob.holds) (hd : Nat.blt d n = true) : Fits E n tm bx ops ⟨some d, .convert sr t y, ty, pos, after, none⟩ r := by
  unfold sConv at h
  split at h
  · rename_i is i k m h1 h2 h3
    split at h
    · rename_i k' hk
      split at h
      · obtain ⟨rfl, rfl⟩ := Step.ok.inj h
        subst ho
        exact good_of fun Θ w => D.conv hE h1 h2 hk h3 hd w
      · obtain ⟨p, h4, h5⟩ := inKs_ok h
        obtain ⟨rfl, rfl⟩ := Step.ok.inj h4
        have e := h5 ho
        refine good_of fun Θ w => D.conv hE h1 h2 hk h3 hd ?_
        rw [e]; exact w
    · cases h
  · cases h
end
section
variable {E : Env} {n : Nat} {tm : List (Nat × AV)} {bx : List (Nat × Box)} {hh : Hint E} {hs : List (Nat × Hint E)} {d : Tmp} {r : Rec} {ob : Ob} {ops : Array Oper} {ty : TypeId} {pos : String} {after : Array Edge}
theorem none_box : BxIn bx [] := .nil
theorem sLit_ok {t : TypeId} {len : Nat} {parts : Array (Nat × Operand)} (hE : E.Ok) (h : sLit E tm bx hh d t len parts = .ok r ob) (ho : ob.holds) (hd : Nat.blt d n = true) : Fits E n tm bx ops ⟨some d, .buildSlice t len parts, ty, pos, after, none⟩ r := by
  unfold sLit at h
  split at h
  · rename_i i h1
    split at h
    · rename_i e h2
      split at h
      · rename_i ie h3
        split at h
        · unfold sLitG at h
          split at h
          · rename_i xs h4 h5 h6
            split at h
            · rename_i h7 h8 h9 h10
              obtain ⟨rfl, rfl⟩ := Step.ok.inj h
              exact good_of fun Θ k => D.lit hE d [] h1 h2 h3 h4 h5 h6 none_box h7 h8 h9 h10 hd k
            · cases h
          · cases h
        · unfold sLitV at h
          split at h
          · rename_i xs h4 h5 h6
            split at h
            · rename_i h7 h8 h9
              obtain ⟨rfl, rfl⟩ := Step.ok.inj h
              exact good_of fun Θ k => D.litV hE h1 h2 h3 h4 h5 h6 h7 h8 h9 hd k
            · cases h
          · cases h
      · cases h
    · cases h
  · cases h
theorem X.rts_ev {s : St} : ∀ {ys : List Operand} {x : Operand} {v : AV}, x ∈ ys → evO E tm x = some v → (∀ p ∈ rtsOf E tm ys, look s.tm p.1 = some p.2) → evO E s.tm x = some v
  | y :: ys, x, v, hm, hv, hs => by
    rcases List.mem_cons.1 hm with rfl | hm
    · cases x with
      | tmp t => exact hs (t, v) (by simp only [rtsOf]; rw [show look tm t = some v from hv]; simp)
      | const c => exact hv
      | global k => exact hv
      | func f => exact hv
    · exact X.rts_ev hm hv (fun p hp => hs p (X.rts_tail hp))
theorem X.bnd_rts {s : St} {ys : List Operand} {dd m : Int} {x : Option Operand} (h : bndO E tm dd x = some m) (hm : ∀ y, x = some y → y ∈ ys) (hs : ∀ p ∈ rtsOf E tm ys, look s.tm p.1 = some p.2) : bndO E s.tm dd x = some m := by
  cases x with
  | none => exact h
  | some y =>
    simp only [bndO] at h ⊢
    split at h
    · rename_i k m' hy
      rw [X.rts_ev (hm y rfl) hy hs]
      exact h
    · cases h
theorem X.sliceP {Θ : List Rec → St → Prop} {l : List Oper} {t e : TypeId} {y : Operand} {lo hi : Option Operand} {i ie : TI} {sz : Nat} {xs ys : List PV} {a b : Int} (hE : E.Ok) (ht : E.T t = some i) (hk : i.desc = .slc e) (he : E.T e = some ie) (hy : evO E tm y = some (.pv (.lst sz xs))) (hsz : sz = ie.size) (hlo : bndO E tm 0 lo = some a) (hhi : bndO E tm xs.length hi = some b)
    (h0 : 0 ≤ a) (h1 : a ≤ b) (h2 : b ≤ xs.length) (hys : (xs.take b.toNat).drop a.toNat = ys) (hd : Nat.blt d n = true)
    (h : Dr E.P E.g ops l ⟨n, (d, .pv (.lst sz ys)) :: tm, bx⟩ (fun rs => Θ (⟨rtsOf E tm (y :: (lo.toList ++ hi.toList)), [], [], some d, .pv (.lst sz ys), []⟩ :: rs))) : Dr E.P E.g ops (⟨some d, .slice t y lo hi none, ty, pos, after, none⟩ :: l) ⟨n, tm, bx⟩ Θ :=
  D.of (rt := rtsOf E tm (y :: (lo.toList ++ hi.toList))) (rb := []) (rts_now _) none_met hd (fun s hs _ hd' => OpOk.sliceLst (s := s) (hE.t _ _ ht) hk (hE.t _ _ he) (evO_ok (n := s.n) (bx := s.bx) (X.rts_ev (by simp) hy hs)) rfl hsz (bndO_ok (n := s.n) (bx := s.bx) (X.bnd_rts hlo (fun z hz => by subst hz; simp) hs)) (bndO_ok (n := s.n) (bx := s.bx) (X.bnd_rts hhi (fun z hz => by subst hz; simp) hs)) h0 h1 h2 hys (fun t ht => by obtain rfl := Option.some.inj ht; exact hd')) h
theorem X.sliceS {Θ : List Rec → St → Prop} {l : List Oper} {t : TypeId} {y : Operand} {lo hi : Option Operand} {i : TI} {s s' : ByteArray} {a b : Int} (hE : E.Ok) (ht : E.T t = some i) (hk : i.desc = .strg) (hy : evO E tm y = some (.pv (.str s))) (hlo : bndO E tm 0 lo = some a) (hhi : bndO E tm s.size hi = some b)
    (h0 : 0 ≤ a) (h1 : a ≤ b) (h2 : b ≤ s.size) (hys : s.extract a.toNat b.toNat = s') (hd : Nat.blt d n = true)
    (h : Dr E.P E.g ops l ⟨n, (d, .pv (.str s')) :: tm, bx⟩ (fun rs => Θ (⟨rtsOf E tm (y :: (lo.toList ++ hi.toList)), [], [], some d, .pv (.str s'), []⟩ :: rs))) : Dr E.P E.g ops (⟨some d, .slice t y lo hi none, ty, pos, after, none⟩ :: l) ⟨n, tm, bx⟩ Θ :=
  D.of (rt := rtsOf E tm (y :: (lo.toList ++ hi.toList))) (rb := []) (rts_now _) none_met hd (fun s2 hs _ hd' => OpOk.sliceStr (s := s2) (hE.t _ _ ht) hk (evO_ok (n := s2.n) (bx := s2.bx) (X.rts_ev (by simp) hy hs)) (bndO_ok (n := s2.n) (bx := s2.bx) (X.bnd_rts hlo (fun z hz => by subst hz; simp) hs)) (bndO_ok (n := s2.n) (bx := s2.bx) (X.bnd_rts hhi (fun z hz => by subst hz; simp) hs)) h0 h1 h2 hys (fun t ht => by obtain rfl := Option.some.inj ht; exact hd')) h
theorem sSlice_ok {t : TypeId} {y : Operand} {lo hi : Option Operand} (hE : E.Ok) (h : sSlice E tm hh d t y lo hi = .ok r ob) (ho : ob.holds) (hd : Nat.blt d n = true) : Fits E n tm bx ops ⟨some d, .slice t y lo hi none, ty, pos, after, none⟩ r := by
  unfold sSlice at h
  split at h
  · rename_i i sz xs h1 h2
    split at h
    · rename_i e h3
      split at h
      · rename_i ie a b h4 h5 h6
        split at h
        · rename_i ys h7
          obtain ⟨rfl, rfl⟩ := Step.ok.inj h
          exact good_of fun Θ k => X.sliceP hE h1 h3 h4 h2 (Nat.eq_of_beq_eq_true h7) h5 h6 ho.1 ho.2.1 ho.2.2.1 ho.2.2.2 hd k
        · rename_i h7 _
          obtain ⟨rfl, rfl⟩ := Step.ok.inj h
          exact good_of fun Θ k => X.sliceP hE h1 h3 h4 h2 (Nat.eq_of_beq_eq_true h7) h5 h6 ho.1 ho.2.1 ho.2.2 rfl hd k
        · cases h
      · cases h
    · cases h
  · rename_i i s h1 h2
    split at h
    · rename_i h3
      split at h
      · rename_i a b h4 h5
        split at h
        · obtain ⟨rfl, rfl⟩ := Step.ok.inj h
          exact good_of fun Θ k => X.sliceS hE h1 h3 h2 h4 h5 ho.1 ho.2.1 ho.2.2.1 ho.2.2.2 hd k
        · obtain ⟨rfl, rfl⟩ := Step.ok.inj h
          exact good_of fun Θ k => X.sliceS hE h1 h3 h2 h4 h5 ho.1 ho.2.1 ho.2.2 rfl hd k
      · cases h
    · cases h
  · cases h
theorem lstQ_ok {z : AV} {sz : Nat} {xs : List PV} {p : Prop} (h : lstQ bx z = some (sz, xs, p)) (hp : p) : lstO bx z = some (sz, xs) ∧ newest bx z := by
  unfold lstQ at h
  split at h
  · have h0 := Prod.mk.inj (Option.some.inj h)
    obtain ⟨h1, h2⟩ := h0
    obtain ⟨h3, h4⟩ := Prod.mk.inj h2
    subst h1; subst h3
    exact ⟨rfl, trivial⟩
  · split at h
    · rename_i hb
      obtain ⟨h1, h2⟩ := Prod.mk.inj (Option.some.inj h)
      obtain ⟨h3, h4⟩ := Prod.mk.inj h2
      subst h1; subst h3; subst h4
      exact ⟨by simp only [lstO, hb], newest_gl hb hp⟩
    · cases h
  · obtain ⟨h1, h2⟩ := Prod.mk.inj (Option.some.inj h)
    obtain ⟨h3, h4⟩ := Prod.mk.inj h2
    subst h1; subst h3
    exact ⟨rfl, trivial⟩
  · cases h
theorem sIxA_ok {t : TypeId} {y ix : Operand} (hE : E.Ok) (h : sIxA E tm bx hh d t y ix = .ok r ob) (ho : ob.holds) (hd : Nat.blt d n = true) : Fits E n tm bx ops ⟨some d, .indexAddr t y ix, ty, pos, after, none⟩ r := by
  unfold sIxA at h
  split at h
  · rename_i i z k m h1 h2 h3
    split at h
    · rename_i e h4
      split at h
      · rename_i ie sz xs p h5 h6
        split at h
        · rename_i x h7
          obtain ⟨rfl, rfl⟩ := Step.ok.inj h
          obtain ⟨hp, h0, hx⟩ := ho
          obtain ⟨k1, k2⟩ := lstQ_ok h6 hp
          exact good_of fun Θ w => D.index hE h1 h4 h5 h2 k1 k2 h3 h0 hx (Nat.eq_of_beq_eq_true h7) rfl hd w
        · rename_i h7 _
          split at h
          · rename_i x hx
            obtain ⟨rfl, rfl⟩ := Step.ok.inj h
            obtain ⟨hp, h0⟩ := ho
            obtain ⟨k1, k2⟩ := lstQ_ok h6 hp
            exact good_of fun Θ w => D.index hE h1 h4 h5 h2 k1 k2 h3 h0 hx (Nat.eq_of_beq_eq_true h7) rfl hd w
          · cases h
        · cases h
      · cases h
    · rename_i len e h4
      split at h
      · rename_i ie h5
        split at h
        · rename_i x h6
          obtain ⟨rfl, rfl⟩ := Step.ok.inj h
          exact good_of fun Θ w => D.indexA hE h1 h4 h5 h2 h3 ho.1 ho.2 rfl (offO_ok h6) hd w
        · cases h
      · cases h
    · cases h
  · cases h
theorem sIx_ok {t : TypeId} {y ix : Operand} (hE : E.Ok) (h : sIx E tm hh d t y ix = .ok r ob) (ho : ob.holds) (hd : Nat.blt d n = true) : Fits E n tm bx ops ⟨some d, .index t y ix, ty, pos, after, none⟩ r := by
  unfold sIx at h
  split at h
  · rename_i i s k m h1 h2 h3
    split at h
    · rename_i c h4
      obtain ⟨rfl, rfl⟩ := Step.ok.inj h
      exact good_of fun Θ w => D.indexS hE h1 h4 h2 h3 ho.1 ho.2 hd w
    · cases h
  · cases h
theorem sLen_ok {t : TypeId} {y : Operand} (hE : E.Ok) (h : sLen E tm bx hh d t y = .ok r ob) (ho : ob.holds) (hd : Nat.blt d n = true) : Fits E n tm bx ops ⟨some d, .call { callee := .builtin .len, args := #[y], argTypes := #[t] }, ty, pos, after, none⟩ r := by
  unfold sLen at h
  split at h
  · rename_i i z h1 h2
    split at h
    · rename_i e h3
      split at h
      · rename_i sz xs p h4
        split at h
        · obtain ⟨rfl, rfl⟩ := Step.ok.inj h
          obtain ⟨hp, rfl⟩ := ho
          obtain ⟨k1, k2⟩ := lstQ_ok h4 hp
          exact good_of fun Θ w => D.lenLst hE h1 h3 h2 k1 k2 hd w
        · obtain ⟨rfl, rfl⟩ := Step.ok.inj h
          obtain ⟨k1, k2⟩ := lstQ_ok h4 ho
          exact good_of fun Θ w => D.lenLst hE h1 h3 h2 k1 k2 hd w
      · cases h
    · rename_i h3
      split at h
      · split at h
        · obtain ⟨rfl, rfl⟩ := Step.ok.inj h
          subst ho
          exact good_of fun Θ w => D.lenStr hE h1 h3 h2 hd w
        · obtain ⟨rfl, rfl⟩ := Step.ok.inj h
          exact good_of fun Θ w => D.lenStr hE h1 h3 h2 hd w
      · cases h
    · cases h
  · cases h
theorem X.min {Θ : List Rec → St → Prop} {l : List Oper} {x y : Operand} {ts : Array TypeId} {k k' : IntKind} {m j r : Int} (hx : evO E tm x = some (.pv (.int k m))) (hy : evO E tm y = some (.pv (.int k' j))) (hr : (if j < m then j else m) = r) (hd : Nat.blt d n = true)
    (h : Dr E.P E.g ops l ⟨n, (d, .pv (.int k r)) :: tm, bx⟩ (fun rs => Θ (⟨rtOf x (.pv (.int k m)) ++ rtOf y (.pv (.int k' j)), [], [], some d, .pv (.int k r), []⟩ :: rs))) :
    Dr E.P E.g ops (⟨some d, .call { callee := .builtin .min, args := #[x, y], argTypes := ts }, ty, pos, after, none⟩ :: l) ⟨n, tm, bx⟩ Θ := by
  subst hr
  refine D.of (rt := rtOf x (.pv (.int k m)) ++ rtOf y (.pv (.int k' j))) (rb := []) (fun w hw => (List.mem_append.1 hw).elim (rt_now hx w) (rt_now hy w)) none_met hd (fun s hs _ hd' => ?_) h
  have ex := rt_ev hx (fun p hp => hs p (mem_l hp))
  have ey := rt_ev hy (fun p hp => hs p (mem_r hp))
  obtain ⟨e1, e2⟩ := flatsO_ok (E := E) (n := s.n) (tm := s.tm) (bx := s.bx) [x, y] (by simp [flatsO, ex, ey, AV.flat?, PV.val?])
  refine OpOk.now (s := s) (v := .int k (if j < m then j else m)) (by intros; intro h; cases h) e1 ?_ rfl (fun t ht => by obtain rfl := Option.some.inj ht; exact hd')
  have h2 : ∀ (ρ : Operand → Value), ρ x = .int k m → ρ y = .int k' j → Vm.now E.P (execOp ρ ⟨some d, .call { callee := .builtin .min, args := #[x, y], argTypes := ts }, ty, pos, after, none⟩) = some (.value (.int k (if j < m then j else m))) := fun ρ h1 h2 => now_call2 h1 h2 (fun _ => rfl)
  refine h2 _ ?_ ?_
  · rw [e2 x (by simp)]; simp [flO, ex, AV.flat?, PV.val?]
  · rw [e2 y (by simp)]; simp [flO, ey, AV.flat?, PV.val?]
theorem sMin_ok {x y : Operand} {ts : Array TypeId} (h : sMin E tm hh d x y = .ok r ob) (ho : ob.holds) (hd : Nat.blt d n = true) : Fits E n tm bx ops ⟨some d, .call { callee := .builtin .min, args := #[x, y], argTypes := ts }, ty, pos, after, none⟩ r := by
  unfold sMin at h
  split at h
  · rename_i k m k' j h1 h2
    split at h
    · obtain ⟨rfl, rfl⟩ := Step.ok.inj h
      exact good_of fun Θ w => X.min h1 h2 ho hd w
    · obtain ⟨rfl, rfl⟩ := Step.ok.inj h
      exact good_of fun Θ w => X.min h1 h2 rfl hd w
  · cases h
theorem X.max {Θ : List Rec → St → Prop} {l : List Oper} {x y : Operand} {ts : Array TypeId} {k k' : IntKind} {m j r : Int} (hx : evO E tm x = some (.pv (.int k m))) (hy : evO E tm y = some (.pv (.int k' j))) (hr : (if j > m then j else m) = r) (hd : Nat.blt d n = true)
    (h : Dr E.P E.g ops l ⟨n, (d, .pv (.int k r)) :: tm, bx⟩ (fun rs => Θ (⟨rtOf x (.pv (.int k m)) ++ rtOf y (.pv (.int k' j)), [], [], some d, .pv (.int k r), []⟩ :: rs))) :
    Dr E.P E.g ops (⟨some d, .call { callee := .builtin .max, args := #[x, y], argTypes := ts }, ty, pos, after, none⟩ :: l) ⟨n, tm, bx⟩ Θ := by
  subst hr
  refine D.of (rt := rtOf x (.pv (.int k m)) ++ rtOf y (.pv (.int k' j))) (rb := []) (fun w hw => (List.mem_append.1 hw).elim (rt_now hx w) (rt_now hy w)) none_met hd (fun s hs _ hd' => ?_) h
  have ex := rt_ev hx (fun p hp => hs p (mem_l hp))
  have ey := rt_ev hy (fun p hp => hs p (mem_r hp))
  obtain ⟨e1, e2⟩ := flatsO_ok (E := E) (n := s.n) (tm := s.tm) (bx := s.bx) [x, y] (by simp [flatsO, ex, ey, AV.flat?, PV.val?])
  refine OpOk.now (s := s) (v := .int k (if j > m then j else m)) (by intros; intro h; cases h) e1 ?_ rfl (fun t ht => by obtain rfl := Option.some.inj ht; exact hd')
  have h2 : ∀ (ρ : Operand → Value), ρ x = .int k m → ρ y = .int k' j → Vm.now E.P (execOp ρ ⟨some d, .call { callee := .builtin .max, args := #[x, y], argTypes := ts }, ty, pos, after, none⟩) = some (.value (.int k (if j > m then j else m))) := fun ρ h1 h2 => now_call2 h1 h2 (fun _ => rfl)
  refine h2 _ ?_ ?_
  · rw [e2 x (by simp)]; simp [flO, ex, AV.flat?, PV.val?]
  · rw [e2 y (by simp)]; simp [flO, ey, AV.flat?, PV.val?]
theorem sMax_ok {x y : Operand} {ts : Array TypeId} (h : sMax E tm hh d x y = .ok r ob) (ho : ob.holds) (hd : Nat.blt d n = true) : Fits E n tm bx ops ⟨some d, .call { callee := .builtin .max, args := #[x, y], argTypes := ts }, ty, pos, after, none⟩ r := by
  unfold sMax at h
  split at h
  · rename_i k m k' j h1 h2
    split at h
    · obtain ⟨rfl, rfl⟩ := Step.ok.inj h
      exact good_of fun Θ w => X.max h1 h2 ho hd w
    · obtain ⟨rfl, rfl⟩ := Step.ok.inj h
      exact good_of fun Θ w => X.max h1 h2 rfl hd w
  · cases h
theorem sAppend_ok {t : TypeId} {y x : Operand} (hE : E.Ok) (h : sAppend E tm bx hh d t y x = .ok r ob) (ho : ob.holds) (hd : Nat.blt d n = true) : Fits E n tm bx ops ⟨some d, .call { callee := .builtin .append, args := #[y, x], argTypes := #[t, t] }, ty, pos, after, none⟩ r := by
  unfold sAppend at h
  split at h
  · rename_i i b m z h1 h2 h3
    split at h
    · rename_i e e' sz xs s2 ys p h4 h5 h6
      split at h
      · rename_i ie h7
        split at h
        · rename_i g1 g2 g3 g4 g5
          obtain rfl := Nat.eq_of_beq_eq_true g1
          obtain rfl := Nat.eq_of_beq_eq_true g2
          split at h
          · obtain ⟨rfl, rfl⟩ := Step.ok.inj h
            obtain ⟨hp, q1, q2, q3, q4, rfl⟩ := ho
            obtain ⟨k1, k2⟩ := lstQ_ok h6 hp
            exact good_of fun Θ w => D.append hE h1 h4 h7 h2 h5 q1 h3 k1 k2 rfl (Nat.eq_of_beq_eq_true g3) g4 g5 q2 q3 q4 hd w
          · obtain ⟨rfl, rfl⟩ := Step.ok.inj h
            obtain ⟨hp, q1, q2, q3, q4⟩ := ho
            obtain ⟨k1, k2⟩ := lstQ_ok h6 hp
            exact good_of fun Θ w => D.append hE h1 h4 h7 h2 h5 q1 h3 k1 k2 rfl (Nat.eq_of_beq_eq_true g3) g4 g5 q2 q3 q4 hd w
          · obtain ⟨rfl, rfl⟩ := Step.ok.inj h
            obtain ⟨hp, q1, q2, q3⟩ := ho
            obtain ⟨k1, k2⟩ := lstQ_ok h6 hp
            exact good_of fun Θ w => D.append hE h1 h4 h7 h2 h5 q1 h3 k1 k2 rfl (Nat.eq_of_beq_eq_true g3) g4 g5 q2 q3 rfl hd w
        · cases h
      · cases h
    · cases h
  · cases h
theorem X.boxes {s s' : St} (hb : ∀ x q, s.lstOf x = some q → s'.lstOf x = some q) {x y : AV} (h : AVle s x y) : AVle s' x y := by
  induction h with
  | refl x => exact .refl x
  | any x => exact .any x
  | lst x sz xs h => exact .lst x sz xs (hb _ _ h)
  | nil sz => exact .nil sz
  | agg xs ys hl _ ih => exact .agg xs ys hl ih
  | tup xs ys hl _ ih => exact .tup xs ys hl ih
theorem X.boxess {s s' : St} (hb : ∀ x q, s.lstOf x = some q → s'.lstOf x = some q) {xs ys : List AV} (h : AVles s xs ys) : AVles s' xs ys := by
  induction h with
  | nil => exact .nil
  | cons h t ih => exact .cons (X.boxes hb h) ih
/-- A call, however it comes to its function. -/
theorem X.callG {P : Program} {g : Gb} {s : St} {o : Oper} {d : Tmp} {f : FuncId} {args : List AV} {r : AV} {bs : List (Nat × Box)} (ho : o.dst = some d) (k : Nat) (hc : FnOk P g f args r bs)
    (hrun : ∀ (cx : Cx) (a : Act) (w : World) (G : Gh), cx.P = P → cx.g = g → SR cx s a w G → ∃ vals : Array Value, (execOp a.eval o).run P w = .ok (.enter f vals) w ∧ vals.size = args.length ∧ ∀ (i : Nat) x v, args[i]? = some x → vals[i]? = some v → RA G x v)
    (hcl : closed args = true) (hk : freeB k s.bx bs = true) (hkl : lnFree k g.ln bs = true) (hdr : d2 r = true) (hdb : dBs bs = true) (hd : d < s.n) : OpOk P g o s (St.put { s with bx := shBs k bs ++ s.bx } d (sh3 k r)) := by
  intro cx a w G hP hg hs K Q hK
  obtain ⟨vals, he, hsz, hvals0⟩ := hrun cx a w G hP hg hs
  unfold Oper.wp
  rw [he]
  subst hP
  subst hg
  have hvals : ∀ (i : Nat) x v, args[i]? = some x → vals[i]? = some v → RA ⟨G.dat, fun _ => none, fun _ => none⟩ x v := by
    intro i x v hx hv
    exact RA.agree (h := hvals0 i x v hx hv) (G := G) (G' := ⟨G.dat, fun _ => none, fun _ => none⟩) (D := has []) (fun _ _ _ h => h) (fun b k hD => by simp [has, look] at hD) (fun b x hD => by simp [has, look] at hD) (men3_ok (closed_mem hcl x (List.mem_of_getElem? hx)))
  have hglo : ∀ k cs, cx.g.fn k = some cs → RA ⟨G.dat, fun _ => none, fun _ => none⟩ (.eptr cs) (.pointer (some ⟨k, 0, none⟩)) := fun k cs hg =>
    RA.agree (h := hs.glo k cs hg) (G := G) (G' := ⟨G.dat, fun _ => none, fun _ => none⟩) (D := has []) (fun _ _ _ h => h) (fun b k hD => by simp [has, look] at hD) (fun b x hD => by simp [has, look] at hD) (.eptr cs)
  refine Calls.mono (hc w vals G.dat hs.dat hsz hvals hglo) ?_
  rintro e w' ⟨v, G2, rfl, h2⟩
  obtain ⟨G', h3⟩ := hs.join hk hkl hdr hdb h2 hd
  rw [ho]
  exact hK _ _ G' h3
theorem rbL1_in : ∀ (l : List AV), ∀ p ∈ rbL.rbL1 bx l, look bx p.1 = some p.2
  | [], p, hp => by simp [rbL.rbL1] at hp
  | x :: l, p, hp => by
    cases x <;> simp only [rbL.rbL1] at hp <;> try exact rbL1_in l p hp
    split at hp
    · rename_i B hB
      rcases List.mem_cons.1 hp with rfl | hp
      · exact hB
      · exact rbL1_in l p hp
    · exact rbL1_in l p hp
theorem rbL_in : ∀ (l : List AV), ∀ p ∈ rbL bx l, look bx p.1 = some p.2
  | [], p, hp => by simp [rbL] at hp
  | x :: l, p, hp => by
    cases x <;> simp only [rbL] at hp <;> try exact rbL_in l p hp
    · rcases List.mem_append.1 hp with hp | hp
      · exact rbL1_in _ p hp
      · exact rbL_in l p hp
    · split at hp
      · rename_i B hB
        rcases List.mem_cons.1 hp with rfl | hp
        · exact hB
        · exact rbL_in l p hp
      · exact rbL_in l p hp
theorem lst_mono {rb : List (Nat × Box)} {s : St} (h : ∀ p ∈ rb, look s.bx p.1 = some p.2) : ∀ (x : AV) (q : Nat × List PV), St.lstOf ⟨0, [], rb⟩ x = some q → s.lstOf x = some q := by
  intro x q hq
  cases x with
  | pv p => cases p <;> first | exact hq | (simp [St.lstOf] at hq)
  | gl b m =>
    simp only [St.lstOf] at hq ⊢
    cases hl : look rb b with
    | none => rw [hl] at hq; cases hq
    | some B =>
      rw [hl] at hq
      rw [h (b, B) (look_in hl)]
      exact hq
  | _ => simp [St.lstOf] at hq
theorem shBs_zero : ∀ bs : List (Nat × Box), shBs 0 bs = bs
  | [] => rfl
  | (b, B) :: l => by
    have : shB 0 B = B := by cases B <;> simp only [shB, shs2_zero]
    simp only [shBs, this, shBs_zero l, Nat.add_zero]
theorem X.call {c : Operand} {f : FuncId} {xs : Array Operand} {ts : Array TypeId} {cs as0 as1 args : List AV} {r : AV} {bs : List (Nat × Box)} (k : Nat) (hc : FnC E f args r bs) (hy : evO E tm c = some (.clo f cs)) (hargs : evsO E tm xs.toList = some as0) (hap : appO as0 cs = some as1)
    (hle : AVles ⟨0, [], rbL bx as1⟩ as1 args) (hcl : closed args = true) (hk : freeB k bx bs = true) (hkl : lnFree k E.g.ln bs = true) (hdr : d2 r = true) (hdb : dBs bs = true) (hd : Nat.blt d n = true) :
    Fits E n tm bx ops ⟨some d, .call { callee := .value c, args := xs, argTypes := ts }, ty, pos, after, none⟩ ⟨rtsOf E tm (c :: xs.toList), rbL bx as1, bs.map (fun p => p.1 + k), some d, sh3 k r, shBs k bs⟩ := by
  obtain ⟨fn, h1, h2, h3⟩ := hc.fn
  have hap2 : as0 ++ cs = as1 := (appO_ok _ _ _ hap).symm
  have hfree : ∀ (bs : List (Nat × Box)) (bx : List (Nat × Box)), freeB k bx bs = true ↔ ∀ b ∈ bs.map (fun p => p.1 + k), look bx b = none := by
    intro bs bx
    induction bs with
    | nil => simp [freeB]
    | cons p bs ih =>
      obtain ⟨b, B⟩ := p
      simp only [freeB, Bool.and_eq_true, Bool.not_eq_true', List.map_cons, List.forall_mem_cons, ih]
      refine and_congr ?_ Iff.rfl
      unfold has
      cases look bx (b + k) <;> simp
  refine ⟨.plain rfl rfl fun s hs => ?_, met_mk (rts_now _) (rbL_in _) ((hfree bs bx).1 hk) hd⟩
  have hs2 : ∀ p ∈ rtsOf E tm xs.toList, look s.tm p.1 = some p.2 := fun p hp => hs.t p (X.rts_tail hp)
  refine X.callG (s := s) (P := E.P) (g := E.g) (o := ⟨some d, .call { callee := .value c, args := xs, argTypes := ts }, ty, pos, after, none⟩) (d := d) rfl k hc.ok (fun cx a w G hP hg h => ?_) hcl ((hfree bs s.bx).2 hs.n) hkl hdr hdb (hs.d d rfl)
  obtain ⟨vals, e1, e2, e3⟩ := run_callV (P := E.P) (d := some d) (ts := ts) (ty := ty) (pos := pos) (after := after) (gd := none) (xs := xs) (args := as1) hg h (evO_ok (n := s.n) (bx := s.bx) (X.rts_ev (ys := c :: xs.toList) (by simp) hy hs.t)) h1 h2 h3 (by rw [evsO_rts _ _ hargs s hs2]; exact hap2)
  have hle2 := (X.boxess (lst_mono hs.b) hle).get
  refine ⟨vals, e1, by rw [e2, hle2.1], fun i x v hx hv => ?_⟩
  obtain ⟨y, hy2⟩ : ∃ y, as1[i]? = some y := ⟨_, List.getElem?_eq_getElem (by rw [hle2.1]; exact (List.getElem?_eq_some_iff.1 hx).1)⟩
  exact h.le (hle2.2 i y x hy2 hx) (e3 i y v hy2 hv)
theorem allLook_ok : ∀ {l : List (Nat × Box)}, allLook bx l → ∀ p ∈ l, look bx p.1 = some p.2
  | p :: l, h, q, hq => by
    rcases List.mem_cons.1 hq with rfl | hq
    · exact h.1
    · exact allLook_ok h.2 q hq
theorem X.lend {c : Operand} {f : FuncId} {xs : Array Operand} {ts : Array TypeId} {cs as0 as1 args : List AV} {bi bo : List (Nat × Box)} {r : AV} {ln : List Nat} (hc : FnL ⟨E.P, ⟨E.g.fn, ln⟩, E.T, E.L⟩ f args bi r bo) (hy : evO E tm c = some (.clo f cs)) (hargs : evsO E tm xs.toList = some as0) (hap : appO as0 cs = some as1)
    (hle : AVles ⟨0, [], rbL bx as1⟩ as1 args) (hcl0 : args.all (men3 bi) = true) (hbl0 : allLook bx bi) (hbc : mbx bi bi = true) (hln : lnVars bi ln = true) (hnw : lnNew ln E.g.ln bo = true) (hkb2 : klOk ln bo (klOf ln bo) = true) (hbk : (bi.all fun p => has (klOf ln bo) p.1) = true) (hbo : (bo.all fun p => has bi p.1) = true) (hd : Nat.blt d n = true) :
    Fits E n tm bx ops ⟨some d, .call { callee := .value c, args := xs, argTypes := ts }, ty, pos, after, none⟩ ⟨rtsOf E tm (c :: xs.toList), rbL bx as1 ++ bi, [], some d, r, bo⟩ := by
  obtain ⟨fn, h1, h2, h3⟩ := hc.fn
  have hap2 : as0 ++ cs = as1 := (appO_ok _ _ _ hap).symm
  have hcl : ∀ x ∈ args, men3 bi x = true := fun x hx => List.all_eq_true.1 hcl0 x hx
  have hbl := allLook_ok hbl0
  have hhas : ∀ b, has bi b = true → has (klOf ln bo) b = true := fun b hb => by
    obtain ⟨B, hB⟩ := of_has hb
    have : ∀ (l : List (Nat × Box)), (l.all fun p => has (klOf ln bo) p.1) = true → ∀ B, look l b = some B → has (klOf ln bo) b = true := by
      intro l
      induction l with
      | nil => intro _ B h; simp [look] at h
      | cons p l ih =>
        intro hl B hB
        simp only [List.all_cons, Bool.and_eq_true] at hl
        obtain ⟨k, C⟩ := p
        rw [look_cons] at hB
        by_cases e : k = b
        · subst e; exact hl.1
        · rw [if_neg e] at hB; exact ih hl.2 B hB
    exact this bi hbk B hB
  refine ⟨.plain rfl rfl fun s hs => ?_, met_mk (rts_now _) (fun p hp => (List.mem_append.1 hp).elim (rbL_in _ p) (hbl p)) none_new hd⟩
  have hs2 : ∀ p ∈ rtsOf E tm xs.toList, look s.tm p.1 = some p.2 := fun p hp => hs.t p (X.rts_tail hp)
  have hb' : BxIn s.bx (dropB bi [] s.bx) := BxIn.of fun b B hB => (dropB_mem s.bx [] b B hB).2.1
  have hres := OpOk.lendS (P := E.P) (g := E.g) (s := s) (o := ⟨some d, .call { callee := .value c, args := xs, argTypes := ts }, ty, pos, after, none⟩) (ln := ln) (bx' := dropB bi [] s.bx) (kb := klOf ln bo) rfl hc.ok ⟨fn, h1⟩
    (fun cx a w G hP hg h => by
      obtain ⟨vals, e1, e2, e3⟩ := run_callV (P := E.P) (d := some d) (ts := ts) (ty := ty) (pos := pos) (after := after) (gd := none) (xs := xs) (args := as1) hg h (evO_ok (n := s.n) (bx := s.bx) (X.rts_ev (ys := c :: xs.toList) (by simp) hy hs.t)) h1 h2 h3 (by rw [evsO_rts _ _ hargs s hs2]; exact hap2)
      have hle2 := (X.boxess (lst_mono (fun p hp => hs.b p (List.mem_append_left _ hp))) hle).get
      refine ⟨vals, e1, by rw [e2, hle2.1], fun i x v hx hv => ?_⟩
      obtain ⟨y, hy2⟩ : ∃ y, as1[i]? = some y := ⟨_, List.getElem?_eq_getElem (by rw [hle2.1]; exact (List.getElem?_eq_some_iff.1 hx).1)⟩
      exact h.le (hle2.2 i y x hy2 hx) (e3 i y v hy2 hv)) hcl (BxIn.of fun b B hB => hs.b (b, B) (List.mem_append_right _ hB)) hbc hln hb'
    (disj_of fun b B hB => (dropB_mem s.bx [] b B hB).2.2) (by
      have : ∀ (l : List (Nat × Box)), (l.all fun p => has bi p.1) = true → disj (dropB bi [] s.bx) l = true := by
        intro l
        induction l with
        | nil => intro _; rfl
        | cons p l ih =>
          intro hl
          simp only [List.all_cons, Bool.and_eq_true] at hl
          simp only [disj, Bool.and_eq_true, Bool.not_eq_true']
          refine ⟨?_, ih hl.2⟩
          cases hh : has (dropB bi [] s.bx) p.1 with
          | false => rfl
          | true =>
            obtain ⟨B, hB⟩ := of_has hh
            have := (dropB_mem s.bx [] p.1 B (look_in hB)).2.2
            rw [hl.1] at this; cases this
      exact this bo hbo) hnw hkb2 (fun b hb => by
      cases hh : has bi b with
      | true => exact .inr (hhas b hh)
      | false =>
        left
        obtain ⟨B, hB⟩ := of_has hb
        have := dropB_look (bi := bi) hh s.bx [] rfl
        rw [hB] at this
        exact has_of this) (hs.d d rfl)
  refine hres.alike ⟨rfl, fun t => rfl, fun b => ?_⟩
  show look (bo ++ dropB bi [] s.bx) b = look (bo ++ s.bx) b
  rw [look_append, look_append]
  cases hl : look bo b with
  | some B => rfl
  | none =>
    cases hh : has bi b with
    | false => exact dropB_look hh s.bx [] rfl
    | true =>
      obtain ⟨h5, cs, h6⟩ := klOk_ok hkb2 b (hhas b hh)
      rw [hl] at h6; cases h6
theorem sCall_ok {c : Operand} {xs : Array Operand} {ts : Array TypeId} (h : sCall E tm bx hh d c xs = .ok r ob) (ho : ob.holds) (hd : Nat.blt d n = true) : Fits E n tm bx ops ⟨some d, .call { callee := .value c, args := xs, argTypes := ts }, ty, pos, after, none⟩ r := by
  unfold sCall at h
  split at h
  · rename_i f cs as0 h1 h2
    split at h
    · rename_i as1 h3
      split at h
      · rename_i f' args q hc
        split at h
        · rename_i h4
          obtain rfl := Nat.eq_of_beq_eq_true h4
          obtain ⟨rfl, rfl⟩ := Step.ok.inj h
          have := X.call (d := d) (n := n) (ops := ops) (ty := ty) (pos := pos) (after := after) (ts := ts) 0 hc h1 h2 h3 ho.1 ho.2.1 rfl rfl ho.2.2 rfl hd
          rw [sh3_zero] at this
          exact this
        · cases h
      · rename_i f' args q bs hc
        split at h
        · rename_i h4
          obtain rfl := Nat.eq_of_beq_eq_true h4
          split at h
          · rename_i h5
            obtain ⟨rfl, rfl⟩ := Step.ok.inj h
            obtain ⟨o1, o2, o3, o4, o6⟩ := ho
            have := X.call (d := d) (n := n) (ops := ops) (ty := ty) (pos := pos) (after := after) (ts := ts) 0 hc h1 h2 h3 o1 o2 h5 o6 o3 o4 hd
            rw [sh3_zero, shBs_zero] at this
            exact this
          · obtain ⟨rfl, rfl⟩ := Step.ok.inj h
            obtain ⟨o1, o2, o3, o4, o5, o6⟩ := ho
            exact X.call ((d + 1) * 1000) hc h1 h2 h3 o1 o2 o5 o6 o3 o4 hd
        · cases h
      · rename_i ln f' args bi q bo hc
        split at h
        · rename_i h4
          obtain rfl := Nat.eq_of_beq_eq_true h4
          obtain ⟨rfl, rfl⟩ := Step.ok.inj h
          obtain ⟨o1, o2, o3, o4⟩ := ho
          simp only [Bool.and_eq_true] at o4
          obtain ⟨q1, q2, q3, q4, q5, q6⟩ := o4
          exact X.lend hc h1 h2 h3 o1 o2 o3 q1 q2 q3 q4 q5 q6 hd
        · cases h
      · cases h
    · cases h
  · cases h
theorem sFunc_ok {f : FuncId} {cap : Array Operand} (h : sFunc E tm d f cap = .ok r ob) (ho : ob.holds) (hd : Nat.blt d n = true) : Fits E n tm bx ops ⟨some d, .makeFunc (.func f) #[] cap, ty, pos, after, none⟩ r := by
  unfold sFunc at h
  split at h
  · rename_i cs h1
    obtain ⟨rfl, rfl⟩ := Step.ok.inj h
    exact good_of fun Θ k => D.of (rt := rtsOf E tm cap.toList) (rb := []) (rts_now _) none_met hd (fun s hs _ hd' => OpOk.makeFunc (s := s) (evsO_rts _ _ h1 s hs) (fun t ht => by obtain rfl := Option.some.inj ht; exact hd')) k
  · cases h
theorem sRange_ok {t : TypeId} {y : Operand} (hE : E.Ok) (h : sRange E tm bx d t y = .ok r ob) (ho : ob.holds) (hd : Nat.blt d n = true) : Fits E n tm bx ops ⟨some d, .range t y, ty, pos, after, none⟩ r := by
  unfold sRange at h
  split at h
  · rename_i i s h1 h2
    split at h
    · rename_i h3 h4 h5
      obtain ⟨rfl, rfl⟩ := Step.ok.inj h
      exact ⟨.plain rfl rfl fun s hs => OpOk.range (s := s) d (hE.t _ _ h1) h3 (evO_ok (n := s.n) (bx := s.bx) (rt_ev h2 hs.t)) (hs.n d (by simp)) h5 (hs.d d rfl), met_mk (rt_now h2) none_met (fun c hc => by simp at hc; subst hc; exact h4) hd⟩
    · cases h
  · cases h
theorem X.nextT {P : Program} {g : Gb} {s : St} {y : Operand} {b p c wd : Nat} {x : ByteArray} (hy : s.ev g y = .ptr b 0) (hb : look s.bx b = some (.iter x p)) (hp : p < x.size) (hdec : Utf8.decode x p = (c, wd)) (hd : d < s.n) :
    OpOk P g ⟨some d, .next y true, ty, pos, after, none⟩ s ((s.box b (.iter x (p + wd))).put d (.tup [.pv (.bool true), .pv (.int .i64 p), .pv (.int .i32 c)])) := by
  intro cx a w G hP hg hs K Q hK
  have h1 := hs.ev hg y
  rw [hy] at h1
  obtain ⟨k, e1, e2, e3⟩ := iter_ptr hs hb h1
  have hrun : (execOp a.eval ⟨some d, .next y true, ty, pos, after, none⟩).run P w = .ok (.value (.tuple #[.bool true, goInt p, .int .i32 c])) { w with heap := w.heap.setIfInBounds k (.stringIter x (p + wd)) } := by
    simp [execOp, e1, Instr.next, Sem.run_bind, Sem.run, getObj, setObj, e3, hp, hdec, Result.andThen]
  unfold Oper.wp
  rw [hrun]
  refine hK _ _ G ((SR.setIter (P := P) (g := g) hs hb e2).put hd (.tup _ _ rfl fun i z v hz hv => ?_))
  match i, hz, hv with
  | 0, hz, hv => simp at hz hv; subst hz; subst hv; exact .pv _ _ (.bool true)
  | 1, hz, hv => simp at hz hv; subst hz; subst hv; exact .pv _ _ (.int _ _)
  | 2, hz, hv => simp at hz hv; subst hz; subst hv; exact .pv _ _ (.int _ _)
  | i + 3, hz, hv => simp at hz
theorem X.nextF {P : Program} {g : Gb} {s : St} {y : Operand} {b p : Nat} {x : ByteArray} (hy : s.ev g y = .ptr b 0) (hb : look s.bx b = some (.iter x p)) (hp : ¬ p < x.size) (hd : d < s.n) :
    OpOk P g ⟨some d, .next y true, ty, pos, after, none⟩ s (s.put d (.tup [.pv (.bool false)])) := by
  intro cx a w G hP hg hs K Q hK
  have h1 := hs.ev hg y
  rw [hy] at h1
  obtain ⟨k, e1, e2, e3⟩ := iter_ptr hs hb h1
  have hrun : (execOp a.eval ⟨some d, .next y true, ty, pos, after, none⟩).run P w = .ok (.value (.tuple #[.bool false])) w := by
    simp [execOp, e1, Instr.next, Sem.run_bind, Sem.run, getObj, e3, hp, Result.andThen]
  unfold Oper.wp
  rw [hrun]
  refine hK _ _ G (hs.put hd (.tup _ _ rfl fun i z v hz hv => ?_))
  match i, hz, hv with
  | 0, hz, hv => simp at hz hv; subst hz; subst hv; exact .pv _ _ (.bool false)
  | i + 1, hz, hv => simp at hz
theorem sNext_ok {y : Operand} (h : sNext E tm bx hh d y = .ok r ob) (ho : ob.holds) (hd : Nat.blt d n = true) : Fits E n tm bx ops ⟨some d, .next y true, ty, pos, after, none⟩ r := by
  unfold sNext at h
  split at h
  · rename_i b h1
    split at h
    · rename_i s p c wd h2
      obtain ⟨rfl, rfl⟩ := Step.ok.inj h
      exact ⟨.plain rfl rfl fun s hs => X.nextT (s := s) (evO_ok (n := s.n) (bx := s.bx) (rt_ev h1 hs.t)) (hs.b (b, _) (by simp)) ho.1 ho.2 (hs.d d rfl), met_mk (rt_now h1) (fun c hc => by simp at hc; subst hc; exact h2) none_new hd⟩
    · rename_i s p h2
      obtain ⟨rfl, rfl⟩ := Step.ok.inj h
      exact ⟨.plain rfl rfl fun s hs => X.nextF (s := s) (evO_ok (n := s.n) (bx := s.bx) (rt_ev h1 hs.t)) (hs.b (b, _) (by simp)) ho (hs.d d rfl), met_mk (rt_now h1) (fun c hc => by simp at hc; subst hc; exact h2) none_new hd⟩
    · cases h
  · cases h
theorem X.ta_yes {P : Program} {g : Gb} {s : St} {dst : Option Tmp} {y : Operand} {xT aT : TypeId} {i : TI} {ps : List PV} {gd : Option (Nat × Bool)} (ht : tiOf P aT = some i) (hk : i.desc = .str) (hy : s.ev g y = .pv (.ifc aT (.agg ps))) (hd : ∀ t, dst = some t → t < s.n) :
    OpOk P g ⟨dst, .typeAssert y xT aT true, ty, pos, after, gd⟩ s (s.putO dst (.tup [.agg (ps.map .pv), .pv (.bool true)])) := by
  refine OpOk.val (o := ⟨dst, .typeAssert y xT aT true, ty, pos, after, gd⟩) hd (fun cx a w G hP hg hs => ?_)
  have h1 := hs.ev hg y
  rw [hy] at h1
  obtain ⟨ds, u1, u2⟩ := tiOf_und ht
  rw [hk] at u2
  generalize hv : a.eval y = v at h1
  cases h1 with
  | pv _ _ h1 =>
    cases h1 with
    | ifc _ _ u h1 =>
      have hrun : (Instr.typeAssert (.iface aT u) xT aT true).run P w = .ok (.tuple #[u, .bool true]) w := by
        unfold Instr.typeAssert
        rw [Sem.run_bind, run_underlying u1 w]
        simp only [Result.andThen_ok]
        cases ds <;> simp [kOf] at u2 <;> simp [Sem.run]
      refine ⟨.tuple #[u, .bool true], ?_, .tup _ _ rfl fun j z x hz hx => ?_⟩
      · simp only [execOp, hv, Sem.run_bind, hrun, Result.andThen_ok]
        rfl
      · match j, hz, hx with
        | 0, hz, hx => simp at hz hx; subst hz; subst hx; exact h1.aggAV
        | 1, hz, hx => simp at hz hx; subst hz; subst hx; exact .pv _ _ (.bool true)
        | j + 2, hz, hx => simp at hz
theorem X.ta_no {P : Program} {g : Gb} {s : St} {dst : Option Tmp} {y : Operand} {t xT aT : TypeId} {i : TI} {ps : List PV} {gd : Option (Nat × Bool)} (ht : tiOf P aT = some i) (hk : i.desc = .str) (hz : zAgg P aT = true) (hne : t ≠ aT) (hy : s.ev g y = .pv (.ifc t (.agg ps))) (hd : ∀ t, dst = some t → t < s.n) :
    OpOk P g ⟨dst, .typeAssert y xT aT true, ty, pos, after, gd⟩ s (s.putO dst (.tup [.agg (i.zero.map .pv), .pv (.bool false)])) := by
  refine OpOk.val (o := ⟨dst, .typeAssert y xT aT true, ty, pos, after, gd⟩) hd (fun cx a w G hP hg hs => ?_)
  have h1 := hs.ev hg y
  rw [hy] at h1
  obtain ⟨ds, u1, u2⟩ := tiOf_und ht
  rw [hk] at u2
  obtain ⟨inf, z, dd, i1, i2, i3, i4, i5, i6, i7⟩ := tiOf_ok ht
  obtain ⟨e1, e2⟩ := pvOfs_ok (G := G) _ _ i7
  have hzv : (zeroValue aT).run P w = .ok z w := by simp [zeroValue, typeInfo, i1, i6]
  have hagg : ∃ vs, z = .agg vs := by
    unfold zAgg at hz
    rw [i1] at hz
    simp only [i6] at hz
    cases z <;> simp at hz
    exact ⟨_, rfl⟩
  obtain ⟨zs, rfl⟩ := hagg
  generalize hv : a.eval y = v at h1
  cases h1 with
  | pv _ _ h1 =>
    cases h1 with
    | ifc _ _ u h1 =>
      have hrun : (Instr.typeAssert (.iface t u) xT aT true).run P w = .ok (.tuple #[.agg zs, .bool false]) w := by
        unfold Instr.typeAssert
        rw [Sem.run_bind, run_underlying u1 w]
        simp only [Result.andThen_ok]
        cases ds <;> simp [kOf] at u2 <;> simp [hne, Sem.run_bind, hzv, Result.andThen_ok] <;> rfl
      refine ⟨.tuple #[.agg zs, .bool false], ?_, .tup _ _ rfl fun j z x hz hx => ?_⟩
      · simp only [execOp, hv, Sem.run_bind, hrun, Result.andThen_ok]
        rfl
      · match j, hz, hx with
        | 0, hz, hx => simp at hz hx; subst hz; subst hx; exact .agg _ _ (by rw [List.length_map]; exact e1) (fun i x v hx hv => e2 i x v hx ((Array.getElem?_toList (xs := zs) (i := i)).trans hv))
        | 1, hz, hx => simp at hz hx; subst hz; subst hx; exact .pv _ _ (.bool false)
        | j + 2, hz, hx => simp at hz
theorem sTA_ok {y : Operand} {xT aT : TypeId} (hE : E.Ok) (h : sTA E tm d y aT = .ok r ob) (ho : ob.holds) (hd : Nat.blt d n = true) : Fits E n tm bx ops ⟨some d, .typeAssert y xT aT true, ty, pos, after, none⟩ r := by
  unfold sTA at h
  split at h
  · rename_i t ps i h1 h2
    split at h
    · rename_i h3 h4
      obtain rfl := Nat.eq_of_beq_eq_true h4
      split at h
      · rename_i cs h5
        obtain ⟨rfl, rfl⟩ := Step.ok.inj h
        obtain rfl := pvsO_ok _ _ h5
        exact good_of fun Θ k => D.of (rt := rtOf y (.pv (.ifc t (.agg ps)))) (rb := []) (rt_now h1) none_met hd (fun s hs _ hd' => X.ta_yes (s := s) (hE.t _ _ h2) h3 (evO_ok (n := s.n) (bx := s.bx) (rt_ev h1 hs)) (fun t ht => by obtain rfl := Option.some.inj ht; exact hd')) k
      · cases h
    · rename_i h3 h4
      have hne : t ≠ aT := fun e => by subst e; rw [Nat.beq_refl] at h4; cases h4
      split at h
      · rename_i zs h5
        obtain ⟨rfl, rfl⟩ := Step.ok.inj h
        obtain rfl := pvsO_ok _ _ h5
        exact good_of fun Θ k => D.of (rt := rtOf y (.pv (.ifc t (.agg ps)))) (rb := []) (rt_now h1) none_met hd (fun s hs _ hd' => X.ta_no (s := s) (hE.t _ _ h2) h3 ho hne (evO_ok (n := s.n) (bx := s.bx) (rt_ev h1 hs)) (fun t ht => by obtain rfl := Option.some.inj ht; exact hd')) k
      · cases h
    · cases h
  · cases h
theorem sIfc_ok {t : TypeId} {y : Operand} (hE : E.Ok) (h : sIfc E tm d t y = .ok r ob) (ho : ob.holds) (hd : Nat.blt d n = true) : Fits E n tm bx ops ⟨some d, .makeInterface t y, ty, pos, after, none⟩ r := by
  unfold sIfc at h
  split at h
  · rename_i i cs h1 h2
    split at h
    · rename_i ps h3 h4
      split at h
      · rename_i h5
        obtain ⟨rfl, rfl⟩ := Step.ok.inj h
        exact good_of fun Θ k => D.of (rt := rtOf y (.agg cs)) (rb := []) (rt_now h2) none_met hd (fun s hs _ hd' => OpOk.mkIfc (s := s) (hE.t _ _ h1) h3 (evO_ok (n := s.n) (bx := s.bx) (rt_ev h2 hs)) h4 h5 (fun t ht => by obtain rfl := Option.some.inj ht; exact hd')) k
      · cases h
    · cases h
  · cases h
theorem sInv_ok {c : Operand} {name : String} {xs : Array Operand} {ts : Array TypeId} (h : sInv E tm bx hh d c name xs = .ok r ob) (ho : ob.holds) (hd : Nat.blt d n = true) : Fits E n tm bx ops ⟨some d, .call { callee := .invoke c name, args := xs, argTypes := ts }, ty, pos, after, none⟩ r := by
  unfold sInv at h
  split at h
  · rename_i t ps y t' name' f args q hm hc h1 h2
    split at h
    · rename_i z g2
      obtain ⟨rfl, rfl⟩ := Step.ok.inj h
      obtain ⟨rfl, rfl, hle, hcl, hdr⟩ := ho
      have hxs : xs = #[y] := Array.ext' h2
      subst hxs
      refine ⟨.plain rfl rfl fun s hs => ?_, met_mk (rts_now _) (rbL_in _) none_new hd⟩
      have := X.callG (s := s) (P := E.P) (g := E.g) (o := ⟨some d, .call { callee := .invoke c name, args := #[y], argTypes := ts }, ty, pos, after, none⟩) (d := d) rfl 0 hc.ok (fun cx a w G hP hg hs' => ?_) hcl rfl rfl hdr rfl (hs.d d rfl)
      · rw [sh3_zero] at this
        exact this
      · have k1 := hs'.ev hg c
        rw [evO_ok (n := s.n) (bx := s.bx) (X.rts_ev (ys := [c, y]) (by simp) h1 hs.t)] at k1
        have k2 := hs'.ev hg y
        rw [evO_ok (n := s.n) (bx := s.bx) (X.rts_ev (ys := [c, y]) (by simp) g2 hs.t)] at k2
        generalize hv : a.eval c = v at k1
        cases k1 with
        | pv _ _ k1 =>
          cases k1 with
          | ifc _ _ u k1 =>
            have hle2 := (X.boxess (lst_mono hs.b) hle).get
            refine ⟨#[u, a.eval y], ?_, by rw [← hle2.1]; rfl, fun i x q hx hq => ?_⟩
            · have := hm u (a.eval y) w
              simpa [execOp, resolve, hv, invoke, Sem.run_bind, Sem.run_pure, Result.andThen_ok] using this
            · match i with
              | 0 => simp at hq; subst hq; exact hs'.le (hle2.2 0 _ x rfl hx) k1.aggAV
              | 1 => simp at hq; subst hq; exact hs'.le (hle2.2 1 _ x rfl hx) k2
              | i + 2 => simp at hq
    · cases h
  · cases h
theorem arr_of {α : Type} {a : Array α} {l : List α} (h : a.toList = l) : a = l.toArray := by
  subst h; rfl
theorem sBuiltin_ok {b : Builtin} {xs : Array Operand} {ts : Array TypeId} (hE : E.Ok) (h : sBuiltin E tm bx hh d b xs.toList ts.toList = .ok r ob) (ho : ob.holds) (hd : Nat.blt d n = true) : Fits E n tm bx ops ⟨some d, .call { callee := .builtin b, args := xs, argTypes := ts }, ty, pos, after, none⟩ r := by
  unfold sBuiltin at h
  split at h
  · rename_i y t e1 e2
    obtain rfl := arr_of e1
    obtain rfl := arr_of e2
    exact sLen_ok hE h ho hd
  · rename_i x y _ e1
    obtain rfl := arr_of e1
    exact sMin_ok h ho hd
  · rename_i x y _ e1
    obtain rfl := arr_of e1
    exact sMax_ok h ho hd
  · rename_i y x t t' e1 e2
    obtain rfl := arr_of e1
    obtain rfl := arr_of e2
    split at h
    · rename_i hk
      obtain rfl := Nat.eq_of_beq_eq_true hk
      exact sAppend_ok hE h ho hd
    · cases h
  · cases h
theorem sOp_ok {op : Op} (hE : E.Ok) (h : sOp E tm bx hh d op = .ok r ob) (ho : ob.holds) (hd : Nat.blt d n = true) : Fits E n tm bx ops ⟨some d, op, ty, pos, after, none⟩ r := by
  unfold sOp at h
  split at h
  · exact sMove_ok h ho hd
  · exact sMove_ok2 h ho hd
  · exact sPick_ok h ho hd
  · exact sAlloc_ok hE h ho hd
  · exact sBox_ok h ho hd
  · exact sBuild_ok hE h ho hd
  · exact sLit_ok hE h ho hd
  · exact sLoad_ok hE h ho hd
  · exact sNil_ok h ho hd
  · exact sField_ok hE h ho hd
  · exact sExtract_ok h ho hd
  · exact sBin_ok hE h ho hd
  · exact sUn_ok h ho hd
  · exact sConv_ok hE h ho hd
  · exact sSlice_ok hE h ho hd
  · exact sIxA_ok hE h ho hd
  · exact sIx_ok hE h ho hd
  · split at h
    · rename_i hf
      obtain rfl := arr_of hf
      exact sFunc_ok h ho hd
    · cases h
  · exact sRange_ok hE h ho hd
  · exact sNext_ok h ho hd
  · exact sIfc_ok hE h ho hd
  · exact sTA_ok hE h ho hd
  · split at h
    · exact sBuiltin_ok hE h ho hd
    · exact sCall_ok h ho hd
    · exact sInv_ok h ho hd
  · cases h
theorem step_ok {dst : Option Tmp} {op : Op} (hE : E.Ok) (h : step E n tm bx hs dst op = .ok r ob) (ho : ob.holds) : Fits E n tm bx ops ⟨dst, op, ty, pos, after, none⟩ r := by
  unfold step at h
  split at h
  · split at h
    · rename_i hd
      split at h
      · exact sOp_ok hE h ho hd
      · exact sOp_ok hE h ho hd
    · cases h
  · split at h
    · exact sStore_ok hE h ho
    · cases h
end
end Go.Proofs.YtlcmnhocicehmaaDoor.Vm
