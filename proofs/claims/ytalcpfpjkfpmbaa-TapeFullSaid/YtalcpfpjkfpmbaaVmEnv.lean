/- The types of this program as the value machine reads them, each checked by the kernel. Conditions: none. -/
import Derived.Test.YtalcpfpjkfpmbaaProg
import Derived.Test.YtalcpfpjkfpmbaaVm4
namespace Go.Proofs.Ytalcpfpjkfpmbaa.Vm
open Go Go.RowKit
set_option maxRecDepth 100000
theorem ty1 : tiOf Try.prog 1 = some ⟨.oth, 1, 8, [.nilF]⟩ := by kernel_rfl
theorem ty2 : tiOf Try.prog 2 = some ⟨.int .i64, 1, 8, [.int .i64 0]⟩ := by kernel_rfl
theorem ty3 : tiOf Try.prog 3 = some ⟨.int .i64, 1, 8, [.int .i64 0]⟩ := by kernel_rfl
theorem ty4 : tiOf Try.prog 4 = some ⟨.bool, 1, 1, [.bool false]⟩ := by kernel_rfl
theorem ty5 : tiOf Try.prog 5 = some ⟨.int .u8, 1, 1, [.int .u8 0]⟩ := by kernel_rfl
theorem ty6 : tiOf Try.prog 6 = some ⟨.int .u8, 1, 1, [.int .u8 0]⟩ := by kernel_rfl
theorem ty7 : tiOf Try.prog 7 = some ⟨.str, 4, 24, [.int .i64 0, .int .i64 0, .bool false, .int .u8 0]⟩ := by kernel_rfl
theorem ty8 : tiOf Try.prog 8 = some ⟨.str, 4, 24, [.int .i64 0, .int .i64 0, .bool false, .int .u8 0]⟩ := by kernel_rfl
theorem ty9 : tiOf Try.prog 9 = some ⟨.strg, 1, 16, [.str ⟨#[]⟩]⟩ := by kernel_rfl
theorem ty10 : tiOf Try.prog 10 = some ⟨.strg, 1, 16, [.str ⟨#[]⟩]⟩ := by kernel_rfl
theorem ty11 : tiOf Try.prog 11 = some ⟨.strg, 1, 16, [.str ⟨#[]⟩]⟩ := by kernel_rfl
theorem ty12 : tiOf Try.prog 12 = some ⟨.int .u64, 1, 8, [.int .u64 0]⟩ := by kernel_rfl
theorem ty13 : tiOf Try.prog 13 = some ⟨.str, 2, 24, [.str ⟨#[]⟩, .int .u64 0]⟩ := by kernel_rfl
theorem ty14 : tiOf Try.prog 14 = some ⟨.str, 2, 24, [.str ⟨#[]⟩, .int .u64 0]⟩ := by kernel_rfl
theorem ty21 : tiOf Try.prog 21 = some ⟨.int .i32, 1, 4, [.int .i32 0]⟩ := by kernel_rfl
theorem ty22 : tiOf Try.prog 22 = some ⟨.oth, 1, 8, [.nilF]⟩ := by kernel_rfl
theorem ty23 : tiOf Try.prog 23 = some ⟨.slc 64, 1, 24, [.nil]⟩ := by kernel_rfl
theorem ty24 : tiOf Try.prog 24 = some ⟨.slc 70, 1, 24, [.nil]⟩ := by kernel_rfl
theorem ty25 : tiOf Try.prog 25 = some ⟨.str, 2, 48, [.nil, .nil]⟩ := by kernel_rfl
theorem ty26 : tiOf Try.prog 26 = some ⟨.str, 2, 48, [.nil, .nil]⟩ := by kernel_rfl
theorem ty27 : tiOf Try.prog 27 = some ⟨.int .i64, 1, 8, [.int .i64 0]⟩ := by kernel_rfl
theorem ty29 : tiOf Try.prog 29 = some ⟨.oth, 1, 8, [.nilF]⟩ := by kernel_rfl
theorem ty31 : tiOf Try.prog 31 = some ⟨.oth, 1, 8, [.nilF]⟩ := by kernel_rfl
theorem ty32 : tiOf Try.prog 32 = some ⟨.slc 5, 1, 24, [.nil]⟩ := by kernel_rfl
theorem ty33 : tiOf Try.prog 33 = some ⟨.slc 32, 1, 24, [.nil]⟩ := by kernel_rfl
theorem ty35 : tiOf Try.prog 35 = some ⟨.oth, 1, 8, [.nilF]⟩ := by kernel_rfl
theorem ty36 : tiOf Try.prog 36 = some ⟨.oth, 1, 8, [.nilF]⟩ := by kernel_rfl
theorem ty37 : tiOf Try.prog 37 = some ⟨.slc 59, 1, 24, [.nil]⟩ := by kernel_rfl
theorem ty39 : tiOf Try.prog 39 = some ⟨.oth, 1, 8, [.nilF]⟩ := by kernel_rfl
theorem ty40 : tiOf Try.prog 40 = some ⟨.oth, 1, 8, [.nilF]⟩ := by kernel_rfl
theorem ty41 : tiOf Try.prog 41 = some ⟨.oth, 1, 8, [.nilF]⟩ := by kernel_rfl
theorem ty42 : tiOf Try.prog 42 = some ⟨.oth, 1, 8, [.nilF]⟩ := by kernel_rfl
theorem ty43 : tiOf Try.prog 43 = some ⟨.oth, 1, 8, [.nilF]⟩ := by kernel_rfl
theorem ty45 : tiOf Try.prog 45 = some ⟨.oth, 1, 8, [.nilF]⟩ := by kernel_rfl
theorem ty46 : tiOf Try.prog 46 = some ⟨.oth, 1, 8, [.nilF]⟩ := by kernel_rfl
theorem ty48 : tiOf Try.prog 48 = some ⟨.str, 3, 56, [.nil, .nil, .int .i64 0]⟩ := by kernel_rfl
theorem ty49 : tiOf Try.prog 49 = some ⟨.str, 3, 56, [.nil, .nil, .int .i64 0]⟩ := by kernel_rfl
theorem ty50 : tiOf Try.prog 50 = some ⟨.oth, 1, 8, [.nilF]⟩ := by kernel_rfl
theorem ty51 : tiOf Try.prog 51 = some ⟨.oth, 1, 8, [.nilF]⟩ := by kernel_rfl
theorem ty52 : tiOf Try.prog 52 = some ⟨.oth, 1, 8, [.nilF]⟩ := by kernel_rfl
theorem ty53 : tiOf Try.prog 53 = some ⟨.int .u64, 1, 8, [.int .u64 0]⟩ := by kernel_rfl
theorem ty54 : tiOf Try.prog 54 = some ⟨.oth, 1, 8, [.nilF]⟩ := by kernel_rfl
theorem ty55 : tiOf Try.prog 55 = some ⟨.int .u32, 1, 4, [.int .u32 0]⟩ := by kernel_rfl
theorem ty56 : tiOf Try.prog 56 = some ⟨.oth, 1, 8, [.nilF]⟩ := by kernel_rfl
theorem ty57 : tiOf Try.prog 57 = some ⟨.oth, 1, 8, [.nilF]⟩ := by kernel_rfl
theorem ty58 : tiOf Try.prog 58 = some ⟨.str, 4, 40, [.int .i64 0, .int .i64 0, .int .i64 0, .str ⟨#[]⟩]⟩ := by kernel_rfl
theorem ty59 : tiOf Try.prog 59 = some ⟨.str, 4, 40, [.int .i64 0, .int .i64 0, .int .i64 0, .str ⟨#[]⟩]⟩ := by kernel_rfl
theorem ty60 : tiOf Try.prog 60 = some ⟨.oth, 1, 8, [.nilF]⟩ := by kernel_rfl
theorem ty61 : tiOf Try.prog 61 = some ⟨.oth, 1, 8, [.nilF]⟩ := by kernel_rfl
theorem ty63 : tiOf Try.prog 63 = some ⟨.oth, 1, 8, [.nilF]⟩ := by kernel_rfl
theorem ty64 : tiOf Try.prog 64 = some ⟨.arr 32 5, 32, 32, List.replicate 32 (.int .u8 0)⟩ := by kernel_rfl
theorem ty66 : tiOf Try.prog 66 = some ⟨.oth, 1, 8, [.nilF]⟩ := by kernel_rfl
theorem ty67 : tiOf Try.prog 67 = some ⟨.oth, 1, 8, [.nilF]⟩ := by kernel_rfl
theorem ty68 : tiOf Try.prog 68 = some ⟨.oth, 1, 8, [.nilF]⟩ := by kernel_rfl
theorem ty69 : tiOf Try.prog 69 = some ⟨.str, 33, 40, [.int .i64 0, .int .u8 0, .int .u8 0, .int .u8 0, .int .u8 0, .int .u8 0, .int .u8 0, .int .u8 0, .int .u8 0, .int .u8 0, .int .u8 0, .int .u8 0, .int .u8 0, .int .u8 0, .int .u8 0, .int .u8 0, .int .u8 0, .int .u8 0, .int .u8 0, .int .u8 0, .int .u8 0, .int .u8 0, .int .u8 0, .int .u8 0, .int .u8 0, .int .u8 0, .int .u8 0, .int .u8 0, .int .u8 0, .int .u8 0, .int .u8 0, .int .u8 0, .int .u8 0]⟩ := by kernel_rfl
theorem ty70 : tiOf Try.prog 70 = some ⟨.str, 33, 40, [.int .i64 0, .int .u8 0, .int .u8 0, .int .u8 0, .int .u8 0, .int .u8 0, .int .u8 0, .int .u8 0, .int .u8 0, .int .u8 0, .int .u8 0, .int .u8 0, .int .u8 0, .int .u8 0, .int .u8 0, .int .u8 0, .int .u8 0, .int .u8 0, .int .u8 0, .int .u8 0, .int .u8 0, .int .u8 0, .int .u8 0, .int .u8 0, .int .u8 0, .int .u8 0, .int .u8 0, .int .u8 0, .int .u8 0, .int .u8 0, .int .u8 0, .int .u8 0, .int .u8 0]⟩ := by kernel_rfl
theorem ty71 : tiOf Try.prog 71 = some ⟨.oth, 1, 8, [.nilF]⟩ := by kernel_rfl
theorem ty72 : tiOf Try.prog 72 = some ⟨.oth, 1, 8, [.nilF]⟩ := by kernel_rfl
theorem ty75 : tiOf Try.prog 75 = some ⟨.arr 0 16, 0, 0, []⟩ := by kernel_rfl
theorem ty76 : tiOf Try.prog 76 = some ⟨.str, 0, 0, []⟩ := by kernel_rfl
theorem ty77 : tiOf Try.prog 77 = some ⟨.str, 0, 0, []⟩ := by kernel_rfl
theorem ty78 : tiOf Try.prog 78 = some ⟨.oth, 1, 8, [.nilF]⟩ := by kernel_rfl
theorem ty79 : tiOf Try.prog 79 = some ⟨.int .u8, 1, 1, [.int .u8 0]⟩ := by kernel_rfl
theorem ty80 : tiOf Try.prog 80 = some ⟨.int .u8, 1, 1, [.int .u8 0]⟩ := by kernel_rfl
theorem ty81 : tiOf Try.prog 81 = some ⟨.oth, 1, 8, [.nilF]⟩ := by kernel_rfl
theorem ty83 : tiOf Try.prog 83 = some ⟨.int .i32, 1, 4, [.int .i32 0]⟩ := by kernel_rfl
theorem ty84 : tiOf Try.prog 84 = some ⟨.int .i32, 1, 4, [.int .i32 0]⟩ := by kernel_rfl
theorem ly7 : laysOf Try.prog 7 = some [(0, 1), (1, 1), (2, 1), (3, 1)] := by kernel_rfl
theorem ly8 : laysOf Try.prog 8 = some [(0, 1), (1, 1), (2, 1), (3, 1)] := by kernel_rfl
theorem ly13 : laysOf Try.prog 13 = some [(0, 1), (1, 1)] := by kernel_rfl
theorem ly14 : laysOf Try.prog 14 = some [(0, 1), (1, 1)] := by kernel_rfl
theorem ly25 : laysOf Try.prog 25 = some [(0, 1), (1, 1)] := by kernel_rfl
theorem ly26 : laysOf Try.prog 26 = some [(0, 1), (1, 1)] := by kernel_rfl
theorem ly48 : laysOf Try.prog 48 = some [(0, 2), (2, 1)] := by kernel_rfl
theorem ly49 : laysOf Try.prog 49 = some [(0, 2), (2, 1)] := by kernel_rfl
theorem ly58 : laysOf Try.prog 58 = some [(0, 1), (1, 1), (2, 1), (3, 1)] := by kernel_rfl
theorem ly59 : laysOf Try.prog 59 = some [(0, 1), (1, 1), (2, 1), (3, 1)] := by kernel_rfl
theorem ly69 : laysOf Try.prog 69 = some [(0, 1), (1, 32)] := by kernel_rfl
theorem ly70 : laysOf Try.prog 70 = some [(0, 1), (1, 32)] := by kernel_rfl
theorem ly76 : laysOf Try.prog 76 = some [(0, 0)] := by kernel_rfl
theorem ly77 : laysOf Try.prog 77 = some [(0, 0)] := by kernel_rfl
def tyT : List (Nat × TI) := [(1, ⟨.oth, 1, 8, [.nilF]⟩), (2, ⟨.int .i64, 1, 8, [.int .i64 0]⟩), (3, ⟨.int .i64, 1, 8, [.int .i64 0]⟩), (4, ⟨.bool, 1, 1, [.bool false]⟩), (5, ⟨.int .u8, 1, 1, [.int .u8 0]⟩), (6, ⟨.int .u8, 1, 1, [.int .u8 0]⟩), (7, ⟨.str, 4, 24, [.int .i64 0, .int .i64 0, .bool false, .int .u8 0]⟩), (8, ⟨.str, 4, 24, [.int .i64 0, .int .i64 0, .bool false, .int .u8 0]⟩), (9, ⟨.strg, 1, 16, [.str ⟨#[]⟩]⟩), (10, ⟨.strg, 1, 16, [.str ⟨#[]⟩]⟩), (11, ⟨.strg, 1, 16, [.str ⟨#[]⟩]⟩), (12, ⟨.int .u64, 1, 8, [.int .u64 0]⟩), (13, ⟨.str, 2, 24, [.str ⟨#[]⟩, .int .u64 0]⟩), (14, ⟨.str, 2, 24, [.str ⟨#[]⟩, .int .u64 0]⟩), (21, ⟨.int .i32, 1, 4, [.int .i32 0]⟩), (22, ⟨.oth, 1, 8, [.nilF]⟩), (23, ⟨.slc 64, 1, 24, [.nil]⟩), (24, ⟨.slc 70, 1, 24, [.nil]⟩), (25, ⟨.str, 2, 48, [.nil, .nil]⟩), (26, ⟨.str, 2, 48, [.nil, .nil]⟩), (27, ⟨.int .i64, 1, 8, [.int .i64 0]⟩), (29, ⟨.oth, 1, 8, [.nilF]⟩), (31, ⟨.oth, 1, 8, [.nilF]⟩), (32, ⟨.slc 5, 1, 24, [.nil]⟩), (33, ⟨.slc 32, 1, 24, [.nil]⟩), (35, ⟨.oth, 1, 8, [.nilF]⟩), (36, ⟨.oth, 1, 8, [.nilF]⟩), (37, ⟨.slc 59, 1, 24, [.nil]⟩), (39, ⟨.oth, 1, 8, [.nilF]⟩), (40, ⟨.oth, 1, 8, [.nilF]⟩), (41, ⟨.oth, 1, 8, [.nilF]⟩), (42, ⟨.oth, 1, 8, [.nilF]⟩), (43, ⟨.oth, 1, 8, [.nilF]⟩), (45, ⟨.oth, 1, 8, [.nilF]⟩), (46, ⟨.oth, 1, 8, [.nilF]⟩), (48, ⟨.str, 3, 56, [.nil, .nil, .int .i64 0]⟩), (49, ⟨.str, 3, 56, [.nil, .nil, .int .i64 0]⟩), (50, ⟨.oth, 1, 8, [.nilF]⟩), (51, ⟨.oth, 1, 8, [.nilF]⟩), (52, ⟨.oth, 1, 8, [.nilF]⟩), (53, ⟨.int .u64, 1, 8, [.int .u64 0]⟩), (54, ⟨.oth, 1, 8, [.nilF]⟩), (55, ⟨.int .u32, 1, 4, [.int .u32 0]⟩), (56, ⟨.oth, 1, 8, [.nilF]⟩), (57, ⟨.oth, 1, 8, [.nilF]⟩), (58, ⟨.str, 4, 40, [.int .i64 0, .int .i64 0, .int .i64 0, .str ⟨#[]⟩]⟩), (59, ⟨.str, 4, 40, [.int .i64 0, .int .i64 0, .int .i64 0, .str ⟨#[]⟩]⟩), (60, ⟨.oth, 1, 8, [.nilF]⟩), (61, ⟨.oth, 1, 8, [.nilF]⟩), (63, ⟨.oth, 1, 8, [.nilF]⟩), (64, ⟨.arr 32 5, 32, 32, List.replicate 32 (.int .u8 0)⟩), (66, ⟨.oth, 1, 8, [.nilF]⟩), (67, ⟨.oth, 1, 8, [.nilF]⟩), (68, ⟨.oth, 1, 8, [.nilF]⟩), (69, ⟨.str, 33, 40, [.int .i64 0, .int .u8 0, .int .u8 0, .int .u8 0, .int .u8 0, .int .u8 0, .int .u8 0, .int .u8 0, .int .u8 0, .int .u8 0, .int .u8 0, .int .u8 0, .int .u8 0, .int .u8 0, .int .u8 0, .int .u8 0, .int .u8 0, .int .u8 0, .int .u8 0, .int .u8 0, .int .u8 0, .int .u8 0, .int .u8 0, .int .u8 0, .int .u8 0, .int .u8 0, .int .u8 0, .int .u8 0, .int .u8 0, .int .u8 0, .int .u8 0, .int .u8 0, .int .u8 0]⟩), (70, ⟨.str, 33, 40, [.int .i64 0, .int .u8 0, .int .u8 0, .int .u8 0, .int .u8 0, .int .u8 0, .int .u8 0, .int .u8 0, .int .u8 0, .int .u8 0, .int .u8 0, .int .u8 0, .int .u8 0, .int .u8 0, .int .u8 0, .int .u8 0, .int .u8 0, .int .u8 0, .int .u8 0, .int .u8 0, .int .u8 0, .int .u8 0, .int .u8 0, .int .u8 0, .int .u8 0, .int .u8 0, .int .u8 0, .int .u8 0, .int .u8 0, .int .u8 0, .int .u8 0, .int .u8 0, .int .u8 0]⟩), (71, ⟨.oth, 1, 8, [.nilF]⟩), (72, ⟨.oth, 1, 8, [.nilF]⟩), (75, ⟨.arr 0 16, 0, 0, []⟩), (76, ⟨.str, 0, 0, []⟩), (77, ⟨.str, 0, 0, []⟩), (78, ⟨.oth, 1, 8, [.nilF]⟩), (79, ⟨.int .u8, 1, 1, [.int .u8 0]⟩), (80, ⟨.int .u8, 1, 1, [.int .u8 0]⟩), (81, ⟨.oth, 1, 8, [.nilF]⟩), (83, ⟨.int .i32, 1, 4, [.int .i32 0]⟩), (84, ⟨.int .i32, 1, 4, [.int .i32 0]⟩)]
def lyT : List (Nat × List (Nat × Nat)) := [(7, [(0, 1), (1, 1), (2, 1), (3, 1)]), (8, [(0, 1), (1, 1), (2, 1), (3, 1)]), (13, [(0, 1), (1, 1)]), (14, [(0, 1), (1, 1)]), (25, [(0, 1), (1, 1)]), (26, [(0, 1), (1, 1)]), (48, [(0, 2), (2, 1)]), (49, [(0, 2), (2, 1)]), (58, [(0, 1), (1, 1), (2, 1), (3, 1)]), (59, [(0, 1), (1, 1), (2, 1), (3, 1)]), (69, [(0, 1), (1, 32)]), (70, [(0, 1), (1, 32)]), (76, [(0, 0)]), (77, [(0, 0)])]
theorem look_mem {α : Type} : ∀ {l : List (Nat × α)} {i : Nat} {x : α}, look l i = some x → (i, x) ∈ l
  | [], i, x, h => by simp [look] at h
  | (k, y) :: l, i, x, h => by
    rw [look_cons] at h
    by_cases c : k = i
    · rw [if_pos c] at h
      obtain rfl := Option.some.inj h
      subst c
      simp
    · rw [if_neg c] at h
      exact List.mem_cons_of_mem _ (look_mem h)
theorem tyOk : ∀ p ∈ tyT, tiOf Try.prog p.1 = some p.2 := by
  simp only [tyT, List.forall_mem_cons]
  exact ⟨ty1, ty2, ty3, ty4, ty5, ty6, ty7, ty8, ty9, ty10, ty11, ty12, ty13, ty14, ty21, ty22, ty23, ty24, ty25, ty26, ty27, ty29, ty31, ty32, ty33, ty35, ty36, ty37, ty39, ty40, ty41, ty42, ty43, ty45, ty46, ty48, ty49, ty50, ty51, ty52, ty53, ty54, ty55, ty56, ty57, ty58, ty59, ty60, ty61, ty63, ty64, ty66, ty67, ty68, ty69, ty70, ty71, ty72, ty75, ty76, ty77, ty78, ty79, ty80, ty81, ty83, ty84, fun p h => by simp at h⟩
theorem lyOk : ∀ p ∈ lyT, laysOf Try.prog p.1 = some p.2 := by
  simp only [lyT, List.forall_mem_cons]
  exact ⟨ly7, ly8, ly13, ly14, ly25, ly26, ly48, ly49, ly58, ly59, ly69, ly70, ly76, ly77, fun p h => by simp at h⟩
/-- The environment of this program, with what its package variables hold. -/
def tyL (t : Nat) : Option TI := look tyT t
def lyL (t : Nat) : Option (List (Nat × Nat)) := look lyT t
/-- A walk to which nothing is lent; to which those boxes are lent. -/
def EnL (P : Program) (g : Nat → Option (List PV)) (ln : List Nat) : Env := ⟨P, ⟨g, ln⟩, tyL, lyL⟩
abbrev En (P : Program) (g : Nat → Option (List PV)) : Env := EnL P g []
theorem EnLOk (g : Nat → Option (List PV)) (ln : List Nat) : (EnL Try.prog g ln).Ok := ⟨fun t i h => tyOk (t, i) (look_mem h), fun t i h => lyOk (t, i) (look_mem h)⟩
theorem EnOk (g : Nat → Option (List PV)) : (En Try.prog g).Ok := EnLOk g []
theorem T1 {P : Program} {g : Nat → Option (List PV)} {ln : List Nat} : (EnL P g ln).T 1 = some ⟨.oth, 1, 8, [.nilF]⟩ := rfl
theorem T2 {P : Program} {g : Nat → Option (List PV)} {ln : List Nat} : (EnL P g ln).T 2 = some ⟨.int .i64, 1, 8, [.int .i64 0]⟩ := rfl
theorem T3 {P : Program} {g : Nat → Option (List PV)} {ln : List Nat} : (EnL P g ln).T 3 = some ⟨.int .i64, 1, 8, [.int .i64 0]⟩ := rfl
theorem T4 {P : Program} {g : Nat → Option (List PV)} {ln : List Nat} : (EnL P g ln).T 4 = some ⟨.bool, 1, 1, [.bool false]⟩ := rfl
theorem T5 {P : Program} {g : Nat → Option (List PV)} {ln : List Nat} : (EnL P g ln).T 5 = some ⟨.int .u8, 1, 1, [.int .u8 0]⟩ := rfl
theorem T6 {P : Program} {g : Nat → Option (List PV)} {ln : List Nat} : (EnL P g ln).T 6 = some ⟨.int .u8, 1, 1, [.int .u8 0]⟩ := rfl
theorem T7 {P : Program} {g : Nat → Option (List PV)} {ln : List Nat} : (EnL P g ln).T 7 = some ⟨.str, 4, 24, [.int .i64 0, .int .i64 0, .bool false, .int .u8 0]⟩ := rfl
theorem T8 {P : Program} {g : Nat → Option (List PV)} {ln : List Nat} : (EnL P g ln).T 8 = some ⟨.str, 4, 24, [.int .i64 0, .int .i64 0, .bool false, .int .u8 0]⟩ := rfl
theorem T9 {P : Program} {g : Nat → Option (List PV)} {ln : List Nat} : (EnL P g ln).T 9 = some ⟨.strg, 1, 16, [.str ⟨#[]⟩]⟩ := rfl
theorem T10 {P : Program} {g : Nat → Option (List PV)} {ln : List Nat} : (EnL P g ln).T 10 = some ⟨.strg, 1, 16, [.str ⟨#[]⟩]⟩ := rfl
theorem T11 {P : Program} {g : Nat → Option (List PV)} {ln : List Nat} : (EnL P g ln).T 11 = some ⟨.strg, 1, 16, [.str ⟨#[]⟩]⟩ := rfl
theorem T12 {P : Program} {g : Nat → Option (List PV)} {ln : List Nat} : (EnL P g ln).T 12 = some ⟨.int .u64, 1, 8, [.int .u64 0]⟩ := rfl
theorem T13 {P : Program} {g : Nat → Option (List PV)} {ln : List Nat} : (EnL P g ln).T 13 = some ⟨.str, 2, 24, [.str ⟨#[]⟩, .int .u64 0]⟩ := rfl
theorem T14 {P : Program} {g : Nat → Option (List PV)} {ln : List Nat} : (EnL P g ln).T 14 = some ⟨.str, 2, 24, [.str ⟨#[]⟩, .int .u64 0]⟩ := rfl
theorem T21 {P : Program} {g : Nat → Option (List PV)} {ln : List Nat} : (EnL P g ln).T 21 = some ⟨.int .i32, 1, 4, [.int .i32 0]⟩ := rfl
theorem T22 {P : Program} {g : Nat → Option (List PV)} {ln : List Nat} : (EnL P g ln).T 22 = some ⟨.oth, 1, 8, [.nilF]⟩ := rfl
theorem T23 {P : Program} {g : Nat → Option (List PV)} {ln : List Nat} : (EnL P g ln).T 23 = some ⟨.slc 64, 1, 24, [.nil]⟩ := rfl
theorem T24 {P : Program} {g : Nat → Option (List PV)} {ln : List Nat} : (EnL P g ln).T 24 = some ⟨.slc 70, 1, 24, [.nil]⟩ := rfl
theorem T25 {P : Program} {g : Nat → Option (List PV)} {ln : List Nat} : (EnL P g ln).T 25 = some ⟨.str, 2, 48, [.nil, .nil]⟩ := rfl
theorem T26 {P : Program} {g : Nat → Option (List PV)} {ln : List Nat} : (EnL P g ln).T 26 = some ⟨.str, 2, 48, [.nil, .nil]⟩ := rfl
theorem T27 {P : Program} {g : Nat → Option (List PV)} {ln : List Nat} : (EnL P g ln).T 27 = some ⟨.int .i64, 1, 8, [.int .i64 0]⟩ := rfl
theorem T29 {P : Program} {g : Nat → Option (List PV)} {ln : List Nat} : (EnL P g ln).T 29 = some ⟨.oth, 1, 8, [.nilF]⟩ := rfl
theorem T31 {P : Program} {g : Nat → Option (List PV)} {ln : List Nat} : (EnL P g ln).T 31 = some ⟨.oth, 1, 8, [.nilF]⟩ := rfl
theorem T32 {P : Program} {g : Nat → Option (List PV)} {ln : List Nat} : (EnL P g ln).T 32 = some ⟨.slc 5, 1, 24, [.nil]⟩ := rfl
theorem T33 {P : Program} {g : Nat → Option (List PV)} {ln : List Nat} : (EnL P g ln).T 33 = some ⟨.slc 32, 1, 24, [.nil]⟩ := rfl
theorem T35 {P : Program} {g : Nat → Option (List PV)} {ln : List Nat} : (EnL P g ln).T 35 = some ⟨.oth, 1, 8, [.nilF]⟩ := rfl
theorem T36 {P : Program} {g : Nat → Option (List PV)} {ln : List Nat} : (EnL P g ln).T 36 = some ⟨.oth, 1, 8, [.nilF]⟩ := rfl
theorem T37 {P : Program} {g : Nat → Option (List PV)} {ln : List Nat} : (EnL P g ln).T 37 = some ⟨.slc 59, 1, 24, [.nil]⟩ := rfl
theorem T39 {P : Program} {g : Nat → Option (List PV)} {ln : List Nat} : (EnL P g ln).T 39 = some ⟨.oth, 1, 8, [.nilF]⟩ := rfl
theorem T40 {P : Program} {g : Nat → Option (List PV)} {ln : List Nat} : (EnL P g ln).T 40 = some ⟨.oth, 1, 8, [.nilF]⟩ := rfl
theorem T41 {P : Program} {g : Nat → Option (List PV)} {ln : List Nat} : (EnL P g ln).T 41 = some ⟨.oth, 1, 8, [.nilF]⟩ := rfl
theorem T42 {P : Program} {g : Nat → Option (List PV)} {ln : List Nat} : (EnL P g ln).T 42 = some ⟨.oth, 1, 8, [.nilF]⟩ := rfl
theorem T43 {P : Program} {g : Nat → Option (List PV)} {ln : List Nat} : (EnL P g ln).T 43 = some ⟨.oth, 1, 8, [.nilF]⟩ := rfl
theorem T45 {P : Program} {g : Nat → Option (List PV)} {ln : List Nat} : (EnL P g ln).T 45 = some ⟨.oth, 1, 8, [.nilF]⟩ := rfl
theorem T46 {P : Program} {g : Nat → Option (List PV)} {ln : List Nat} : (EnL P g ln).T 46 = some ⟨.oth, 1, 8, [.nilF]⟩ := rfl
theorem T48 {P : Program} {g : Nat → Option (List PV)} {ln : List Nat} : (EnL P g ln).T 48 = some ⟨.str, 3, 56, [.nil, .nil, .int .i64 0]⟩ := rfl
theorem T49 {P : Program} {g : Nat → Option (List PV)} {ln : List Nat} : (EnL P g ln).T 49 = some ⟨.str, 3, 56, [.nil, .nil, .int .i64 0]⟩ := rfl
theorem T50 {P : Program} {g : Nat → Option (List PV)} {ln : List Nat} : (EnL P g ln).T 50 = some ⟨.oth, 1, 8, [.nilF]⟩ := rfl
theorem T51 {P : Program} {g : Nat → Option (List PV)} {ln : List Nat} : (EnL P g ln).T 51 = some ⟨.oth, 1, 8, [.nilF]⟩ := rfl
theorem T52 {P : Program} {g : Nat → Option (List PV)} {ln : List Nat} : (EnL P g ln).T 52 = some ⟨.oth, 1, 8, [.nilF]⟩ := rfl
theorem T53 {P : Program} {g : Nat → Option (List PV)} {ln : List Nat} : (EnL P g ln).T 53 = some ⟨.int .u64, 1, 8, [.int .u64 0]⟩ := rfl
theorem T54 {P : Program} {g : Nat → Option (List PV)} {ln : List Nat} : (EnL P g ln).T 54 = some ⟨.oth, 1, 8, [.nilF]⟩ := rfl
theorem T55 {P : Program} {g : Nat → Option (List PV)} {ln : List Nat} : (EnL P g ln).T 55 = some ⟨.int .u32, 1, 4, [.int .u32 0]⟩ := rfl
theorem T56 {P : Program} {g : Nat → Option (List PV)} {ln : List Nat} : (EnL P g ln).T 56 = some ⟨.oth, 1, 8, [.nilF]⟩ := rfl
theorem T57 {P : Program} {g : Nat → Option (List PV)} {ln : List Nat} : (EnL P g ln).T 57 = some ⟨.oth, 1, 8, [.nilF]⟩ := rfl
theorem T58 {P : Program} {g : Nat → Option (List PV)} {ln : List Nat} : (EnL P g ln).T 58 = some ⟨.str, 4, 40, [.int .i64 0, .int .i64 0, .int .i64 0, .str ⟨#[]⟩]⟩ := rfl
theorem T59 {P : Program} {g : Nat → Option (List PV)} {ln : List Nat} : (EnL P g ln).T 59 = some ⟨.str, 4, 40, [.int .i64 0, .int .i64 0, .int .i64 0, .str ⟨#[]⟩]⟩ := rfl
theorem T60 {P : Program} {g : Nat → Option (List PV)} {ln : List Nat} : (EnL P g ln).T 60 = some ⟨.oth, 1, 8, [.nilF]⟩ := rfl
theorem T61 {P : Program} {g : Nat → Option (List PV)} {ln : List Nat} : (EnL P g ln).T 61 = some ⟨.oth, 1, 8, [.nilF]⟩ := rfl
theorem T63 {P : Program} {g : Nat → Option (List PV)} {ln : List Nat} : (EnL P g ln).T 63 = some ⟨.oth, 1, 8, [.nilF]⟩ := rfl
theorem T64 {P : Program} {g : Nat → Option (List PV)} {ln : List Nat} : (EnL P g ln).T 64 = some ⟨.arr 32 5, 32, 32, List.replicate 32 (.int .u8 0)⟩ := rfl
theorem T66 {P : Program} {g : Nat → Option (List PV)} {ln : List Nat} : (EnL P g ln).T 66 = some ⟨.oth, 1, 8, [.nilF]⟩ := rfl
theorem T67 {P : Program} {g : Nat → Option (List PV)} {ln : List Nat} : (EnL P g ln).T 67 = some ⟨.oth, 1, 8, [.nilF]⟩ := rfl
theorem T68 {P : Program} {g : Nat → Option (List PV)} {ln : List Nat} : (EnL P g ln).T 68 = some ⟨.oth, 1, 8, [.nilF]⟩ := rfl
theorem T69 {P : Program} {g : Nat → Option (List PV)} {ln : List Nat} : (EnL P g ln).T 69 = some ⟨.str, 33, 40, [.int .i64 0, .int .u8 0, .int .u8 0, .int .u8 0, .int .u8 0, .int .u8 0, .int .u8 0, .int .u8 0, .int .u8 0, .int .u8 0, .int .u8 0, .int .u8 0, .int .u8 0, .int .u8 0, .int .u8 0, .int .u8 0, .int .u8 0, .int .u8 0, .int .u8 0, .int .u8 0, .int .u8 0, .int .u8 0, .int .u8 0, .int .u8 0, .int .u8 0, .int .u8 0, .int .u8 0, .int .u8 0, .int .u8 0, .int .u8 0, .int .u8 0, .int .u8 0, .int .u8 0]⟩ := rfl
theorem T70 {P : Program} {g : Nat → Option (List PV)} {ln : List Nat} : (EnL P g ln).T 70 = some ⟨.str, 33, 40, [.int .i64 0, .int .u8 0, .int .u8 0, .int .u8 0, .int .u8 0, .int .u8 0, .int .u8 0, .int .u8 0, .int .u8 0, .int .u8 0, .int .u8 0, .int .u8 0, .int .u8 0, .int .u8 0, .int .u8 0, .int .u8 0, .int .u8 0, .int .u8 0, .int .u8 0, .int .u8 0, .int .u8 0, .int .u8 0, .int .u8 0, .int .u8 0, .int .u8 0, .int .u8 0, .int .u8 0, .int .u8 0, .int .u8 0, .int .u8 0, .int .u8 0, .int .u8 0, .int .u8 0]⟩ := rfl
theorem T71 {P : Program} {g : Nat → Option (List PV)} {ln : List Nat} : (EnL P g ln).T 71 = some ⟨.oth, 1, 8, [.nilF]⟩ := rfl
theorem T72 {P : Program} {g : Nat → Option (List PV)} {ln : List Nat} : (EnL P g ln).T 72 = some ⟨.oth, 1, 8, [.nilF]⟩ := rfl
theorem T75 {P : Program} {g : Nat → Option (List PV)} {ln : List Nat} : (EnL P g ln).T 75 = some ⟨.arr 0 16, 0, 0, []⟩ := rfl
theorem T76 {P : Program} {g : Nat → Option (List PV)} {ln : List Nat} : (EnL P g ln).T 76 = some ⟨.str, 0, 0, []⟩ := rfl
theorem T77 {P : Program} {g : Nat → Option (List PV)} {ln : List Nat} : (EnL P g ln).T 77 = some ⟨.str, 0, 0, []⟩ := rfl
theorem T78 {P : Program} {g : Nat → Option (List PV)} {ln : List Nat} : (EnL P g ln).T 78 = some ⟨.oth, 1, 8, [.nilF]⟩ := rfl
theorem T79 {P : Program} {g : Nat → Option (List PV)} {ln : List Nat} : (EnL P g ln).T 79 = some ⟨.int .u8, 1, 1, [.int .u8 0]⟩ := rfl
theorem T80 {P : Program} {g : Nat → Option (List PV)} {ln : List Nat} : (EnL P g ln).T 80 = some ⟨.int .u8, 1, 1, [.int .u8 0]⟩ := rfl
theorem T81 {P : Program} {g : Nat → Option (List PV)} {ln : List Nat} : (EnL P g ln).T 81 = some ⟨.oth, 1, 8, [.nilF]⟩ := rfl
theorem T83 {P : Program} {g : Nat → Option (List PV)} {ln : List Nat} : (EnL P g ln).T 83 = some ⟨.int .i32, 1, 4, [.int .i32 0]⟩ := rfl
theorem T84 {P : Program} {g : Nat → Option (List PV)} {ln : List Nat} : (EnL P g ln).T 84 = some ⟨.int .i32, 1, 4, [.int .i32 0]⟩ := rfl
theorem L7 {P : Program} {g : Nat → Option (List PV)} {ln : List Nat} : (EnL P g ln).L 7 = some [(0, 1), (1, 1), (2, 1), (3, 1)] := rfl
theorem L8 {P : Program} {g : Nat → Option (List PV)} {ln : List Nat} : (EnL P g ln).L 8 = some [(0, 1), (1, 1), (2, 1), (3, 1)] := rfl
theorem L13 {P : Program} {g : Nat → Option (List PV)} {ln : List Nat} : (EnL P g ln).L 13 = some [(0, 1), (1, 1)] := rfl
theorem L14 {P : Program} {g : Nat → Option (List PV)} {ln : List Nat} : (EnL P g ln).L 14 = some [(0, 1), (1, 1)] := rfl
theorem L25 {P : Program} {g : Nat → Option (List PV)} {ln : List Nat} : (EnL P g ln).L 25 = some [(0, 1), (1, 1)] := rfl
theorem L26 {P : Program} {g : Nat → Option (List PV)} {ln : List Nat} : (EnL P g ln).L 26 = some [(0, 1), (1, 1)] := rfl
theorem L48 {P : Program} {g : Nat → Option (List PV)} {ln : List Nat} : (EnL P g ln).L 48 = some [(0, 2), (2, 1)] := rfl
theorem L49 {P : Program} {g : Nat → Option (List PV)} {ln : List Nat} : (EnL P g ln).L 49 = some [(0, 2), (2, 1)] := rfl
theorem L58 {P : Program} {g : Nat → Option (List PV)} {ln : List Nat} : (EnL P g ln).L 58 = some [(0, 1), (1, 1), (2, 1), (3, 1)] := rfl
theorem L59 {P : Program} {g : Nat → Option (List PV)} {ln : List Nat} : (EnL P g ln).L 59 = some [(0, 1), (1, 1), (2, 1), (3, 1)] := rfl
theorem L69 {P : Program} {g : Nat → Option (List PV)} {ln : List Nat} : (EnL P g ln).L 69 = some [(0, 1), (1, 32)] := rfl
theorem L70 {P : Program} {g : Nat → Option (List PV)} {ln : List Nat} : (EnL P g ln).L 70 = some [(0, 1), (1, 32)] := rfl
theorem L76 {P : Program} {g : Nat → Option (List PV)} {ln : List Nat} : (EnL P g ln).L 76 = some [(0, 0)] := rfl
theorem L77 {P : Program} {g : Nat → Option (List PV)} {ln : List Nat} : (EnL P g ln).L 77 = some [(0, 0)] := rfl
theorem mixed : Try.prog.follows .mixedOrders = true := by kernel_rfl
end Go.Proofs.Ytalcpfpjkfpmbaa.Vm
