/- Columns made of raw things, and the raw things that a heap gives. Conditions: none. -/
import Derived.Test.YtlcmnhocicehmaaDoorCodeP
import Derived.Test.YtlcmnhocicehmaaDoorRightS
import Derived.Laws.Strings
section
namespace Go.Proofs.YtlcmnhocicehmaaDoor.Vm
open Go Go.RowKit Go.Lib
set_option linter.unusedVariables false
set_option linter.unusedSimpArgs false
/-- A column: its name, its kind, may it be null. -/
structure Kol where
  nm : ByteArray
  kd : Int
  nl : Bool
abbrev kolE (c : Kol) : PV := .agg [.str c.nm, .int .i64 c.kd, .bool c.nl]
abbrev noS : ByteArray := ⟨#[]⟩
/-- An expression. -/
inductive Xp where
  | lit (v : Vl)
  | col (s : ByteArray)
  | un (op : Int) (a : Xp)
  | bi (op : Int) (a b : Xp)
abbrev v0 : Vl := ⟨0, 0, 0, noS⟩
def Xp.op : Xp → Int
  | .lit _ => 1
  | .col _ => 2
  | .un op _ => op
  | .bi op _ _ => op
def Xp.v : Xp → Vl
  | .lit v => v
  | _ => v0
def Xp.nm : Xp → ByteArray
  | .col s => s
  | _ => noS
def Xp.as : Xp → List PV
  | .un _ a => [.agg [.int .i64 a.op, .int .i64 a.v.kd, .int .i64 a.v.n, .int .u64 a.v.b, .str a.v.s, .str a.nm, .lst 7 a.as]]
  | .bi _ a b => [.agg [.int .i64 a.op, .int .i64 a.v.kd, .int .i64 a.v.n, .int .u64 a.v.b, .str a.v.s, .str a.nm, .lst 7 a.as], .agg [.int .i64 b.op, .int .i64 b.v.kd, .int .i64 b.v.n, .int .u64 b.v.b, .str b.v.s, .str b.nm, .lst 7 b.as]]
  | _ => []
abbrev xE (x : Xp) : PV := .agg [.int .i64 x.op, .int .i64 x.v.kd, .int .i64 x.v.n, .int .u64 x.v.b, .str x.v.s, .str x.nm, .lst 7 x.as]
abbrev xA (x : Xp) : AV := .agg [.pv (.int .i64 x.op), .pv (.int .i64 x.v.kd), .pv (.int .i64 x.v.n), .pv (.int .u64 x.v.b), .pv (.str x.v.s), .pv (.str x.nm), .pv (.lst 7 x.as)]
/-- The parts of an expression. -/
def Xp.args : Xp → List Xp
  | .un _ a => [a]
  | .bi _ a b => [a, b]
  | _ => []
theorem Xp.as_map (x : Xp) : x.as = x.args.map xE := by cases x <;> rfl
theorem Xp.as_len (x : Xp) : x.as.length = x.args.length := by cases x <;> rfl
def Xp.dp : Xp → Nat
  | .lit _ => 1
  | .col _ => 1
  | .un _ a => a.dp + 1
  | .bi _ a b => max a.dp b.dp + 1
def Xp.sz : Xp → Nat
  | .lit _ => 1
  | .col _ => 1
  | .un _ a => a.sz + 1
  | .bi _ a b => a.sz + b.sz + 1
theorem Xp.dp_pos (x : Xp) : 0 < x.dp := by cases x <;> simp [Xp.dp]
/-- A name of a column. -/
def NameOk (s : ByteArray) : Prop := 1 ≤ s.size ∧ s.size ≤ 8 ∧ (∀ c ∈ s.data.toList, 97 ≤ c.toNat ∧ c.toNat ≤ 122)
def UnOp (op : Int) : Prop := op = 3 ∨ op = 4 ∨ op = 17 ∨ op = 18
def BiOp (op : Int) : Prop := (5 ≤ op ∧ op ≤ 16) ∨ op = 19 ∨ op = 20
/-- An expression whose nodes may be. -/
def Xp.wf : Xp → Prop
  | .lit v => Good v ∧ 0 ≤ v.n
  | .col s => NameOk s
  | .un op a => UnOp op ∧ a.wf
  | .bi op a b => BiOp op ∧ a.wf ∧ b.wf
/-- The first column of a name. -/
def findC (cs : List Kol) (s : ByteArray) : Option Kol := cs.find? fun c => c.nm.toList == s.toList
/-- The kind of what there is, and whether it may be null. -/
structure Srt where
  kd : Int
  nl : Bool
def gives (op : Int) : Int := if op = 19 then 4 else if op = 15 ∨ op = 16 ∨ (9 ≤ op ∧ op ≤ 14) then 1 else 2
def kindP (cs : List Kol) : Xp → Srt
  | .lit v => ⟨v.kd, decide (v.kd = 0)⟩
  | .col s => match findC cs s with
    | some c => ⟨c.kd, c.nl⟩
    | none => ⟨0, false⟩
  | .un op a => if op = 17 then ⟨1, false⟩ else ⟨if op = 4 then 1 else 2, (kindP cs a).nl⟩
  | .bi op a b => if op = 20 then ⟨if (kindP cs a).kd = 0 then (kindP cs b).kd else (kindP cs a).kd, (kindP cs a).nl && (kindP cs b).nl⟩ else ⟨gives op, (kindP cs a).nl || (kindP cs b).nl⟩
def UnTy (op k ka : Int) : Prop := (op = 3 ∧ k = 2 ∧ ka = 2) ∨ (op = 4 ∧ k = 1 ∧ ka = 1) ∨ (op = 18 ∧ k = 2 ∧ ka = 4) ∨ (op = 17 ∧ k = 1 ∧ 1 ≤ ka ∧ ka ≤ 4)
def BiTy (op k ka : Int) : Prop := (5 ≤ op ∧ op ≤ 8 ∧ k = 2 ∧ ka = 2) ∨ (15 ≤ op ∧ op ≤ 16 ∧ k = 1 ∧ ka = 1) ∨ (op = 19 ∧ k = 4 ∧ ka = 4) ∨ (op = 20 ∧ ka = k) ∨ (9 ≤ op ∧ op ≤ 14 ∧ k = 1 ∧ 1 ≤ ka ∧ ka ≤ 4)
/-- An expression of a kind over columns. -/
inductive Ty (cs : List Kol) : Int → Xp → Prop
  | lit {k : Int} {v : Vl} (h : Good v) (hn : 0 ≤ v.n) (hk : v.kd = k ∨ v.kd = 0) : Ty cs k (.lit v)
  | col {c : Kol} (h : findC cs c.nm = some c) (hn : NameOk c.nm) : Ty cs c.kd (.col c.nm)
  | un {op k ka : Int} {a : Xp} (h : UnTy op k ka) (ha : Ty cs ka a) : Ty cs k (.un op a)
  | bi {op k ka : Int} {a b : Xp} (h : BiTy op k ka) (ha : Ty cs ka a) (hb : Ty cs ka b) : Ty cs k (.bi op a b)
theorem Ty.wf {cs : List Kol} {k : Int} {x : Xp} (h : Ty cs k x) : x.wf := by
  induction h with
  | lit h hn hk => exact ⟨h, hn⟩
  | col h hn => exact hn
  | un h ha ih => exact ⟨by unfold UnTy at h; unfold UnOp; omega, ih⟩
  | bi h ha hb ia ib => exact ⟨by unfold BiTy at h; unfold BiOp; omega, ia, ib⟩
theorem Ty.kind {cs : List Kol} {k : Int} {x : Xp} (h : Ty cs k x) : (kindP cs x).kd = k ∨ (kindP cs x).kd = 0 := by
  induction h with
  | lit h hn hk => exact hk
  | col h hn => left; simp only [kindP, h]
  | @un op k ka a h ha ih =>
    unfold UnTy at h
    simp only [kindP]
    split
    · left; dsimp only; omega
    · left; dsimp only; split <;> omega
  | @bi op k ka a b h ha hb ia ib =>
    unfold BiTy at h
    simp only [kindP]
    split
    · dsimp only; split <;> omega
    · left; dsimp only; unfold gives; split
      · omega
      · split <;> omega
/-- Where the columns are found with the same kinds, and none is null more. -/
theorem Ty.more {cs ds : List Kol} {k : Int} {x : Xp} (h : Ty cs k x) (hf : ∀ s c, findC cs s = some c → findC ds s = some c) : Ty ds k x ∧ kindP ds x = kindP cs x := by
  induction h with
  | lit h hn hk => exact ⟨.lit h hn hk, rfl⟩
  | col h hn =>
    have h' := hf _ _ h
    exact ⟨.col h' hn, by simp only [kindP, h, h']⟩
  | un h ha ih => exact ⟨.un h ih.1, by simp only [kindP, ih.2]⟩
  | bi h ha hb ia ib => exact ⟨.bi h ia.1 ib.1, by simp only [kindP, ia.2, ib.2]⟩
end Go.Proofs.YtlcmnhocicehmaaDoor.Vm
end
section
namespace Go.Proofs.YtlcmnhocicehmaaDoor.Vm
open Go Go.RowKit Go.Lib
set_option linter.unusedVariables false
set_option linter.unusedSimpArgs false
def nmOf (n : Nat) : ByteArray := ⟨#[UInt8.ofNat n]⟩
theorem nmOf_ok {n : Nat} (h : 97 ≤ n) (h2 : n ≤ 122) : NameOk (nmOf n) := by
  refine ⟨by simp [nmOf, ByteArray.size], by simp [nmOf, ByteArray.size], fun c hc => ?_⟩
  simp only [nmOf, List.mem_singleton] at hc
  subst hc
  have : (UInt8.ofNat n).toNat = n % 256 := rfl
  omega
/-- Columns that may be. -/
structure ColsOk (cs : List Kol) : Prop where
  len : cs.length ≤ 5
  ok : ∀ c ∈ cs, NameOk c.nm ∧ 1 ≤ c.kd ∧ c.kd ≤ 4
  ap : cs.Pairwise fun c d => (c.nm.toList == d.nm.toList) = false
theorem nm_ap (m n : Nat) (h : m < 256) (h2 : n < 256) (hne : m ≠ n) : ((nmOf m).toList == (nmOf n).toList) = false := by
  have e : ∀ k, (nmOf k).toList = [UInt8.ofNat k] := fun k => by
    have : (nmOf k).toList = (nmOf k).data.toList := ByteArray.toList_eq _
    rw [this]; rfl
  rw [e, e]
  simp only [beq_eq_false_iff_ne, ne_eq, List.cons.injEq, and_true]
  intro hk
  have : (UInt8.ofNat m).toNat = (UInt8.ofNat n).toNat := by rw [hk]
  have a1 : (UInt8.ofNat m).toNat = m % 256 := rfl
  have a2 : (UInt8.ofNat n).toNat = n % 256 := rfl
  omega
theorem findC_mem {cs : List Kol} (h : cs.Pairwise fun c d => (c.nm.toList == d.nm.toList) = false) : ∀ c ∈ cs, findC cs c.nm = some c := by
  induction cs with
  | nil => intro c hc; simp at hc
  | cons d cs ih =>
    obtain ⟨h1, h2⟩ := List.pairwise_cons.1 h
    intro c hc
    unfold findC at *
    rcases List.mem_cons.1 hc with rfl | hc
    · simp
    · rw [List.find?_cons_of_neg (by simp [h1 c hc])]
      exact ih h2 c hc
end Go.Proofs.YtlcmnhocicehmaaDoor.Vm
end
