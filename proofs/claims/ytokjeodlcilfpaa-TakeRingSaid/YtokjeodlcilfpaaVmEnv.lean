/- The types of this program as the value machine reads them, each checked by the kernel. Conditions: none. -/
import Derived.Test.YtokjeodlcilfpaaProg
import Derived.Test.YtokjeodlcilfpaaVm4
namespace Go.Proofs.Ytokjeodlcilfpaa.Vm
open Go Go.RowKit
set_option maxRecDepth 100000
theorem ty1 : tiOf Try.prog 1 = some ⟨.oth, 1, 8, [.nilF]⟩ := by kernel_rfl
theorem ty2 : tiOf Try.prog 2 = some ⟨.int .i64, 1, 8, [.int .i64 0]⟩ := by kernel_rfl
theorem ty3 : tiOf Try.prog 3 = some ⟨.int .i64, 1, 8, [.int .i64 0]⟩ := by kernel_rfl
theorem ty4 : tiOf Try.prog 4 = some ⟨.bool, 1, 1, [.bool false]⟩ := by kernel_rfl
theorem ty5 : tiOf Try.prog 5 = some ⟨.int .u8, 1, 1, [.int .u8 0]⟩ := by kernel_rfl
theorem ty6 : tiOf Try.prog 6 = some ⟨.int .u8, 1, 1, [.int .u8 0]⟩ := by kernel_rfl
theorem ty7 : tiOf Try.prog 7 = some ⟨.str, 4, 24, [.int .i64 0, .int .i64 0, .bool false, .int .u8 0]⟩ := by kernel_rfl
theorem ty8 : tiOf Try.prog 8 = some ⟨.str, 4, 24, [.int .i64 0, .int .i64 0, .bool false, .int .u8 0]⟩ := by kernel_rfl
theorem ty9 : tiOf Try.prog 9 = some ⟨.strg, 1, 16, [.str ⟨#[]⟩]⟩ := by kernel_rfl
theorem ty10 : tiOf Try.prog 10 = some ⟨.strg, 1, 16, [.str ⟨#[]⟩]⟩ := by kernel_rfl
theorem ty11 : tiOf Try.prog 11 = some ⟨.strg, 1, 16, [.str ⟨#[]⟩]⟩ := by kernel_rfl
theorem ty12 : tiOf Try.prog 12 = some ⟨.int .u64, 1, 8, [.int .u64 0]⟩ := by kernel_rfl
theorem ty13 : tiOf Try.prog 13 = some ⟨.str, 2, 24, [.str ⟨#[]⟩, .int .u64 0]⟩ := by kernel_rfl
theorem ty14 : tiOf Try.prog 14 = some ⟨.str, 2, 24, [.str ⟨#[]⟩, .int .u64 0]⟩ := by kernel_rfl
theorem ty21 : tiOf Try.prog 21 = some ⟨.int .i32, 1, 4, [.int .i32 0]⟩ := by kernel_rfl
theorem ty22 : tiOf Try.prog 22 = some ⟨.slc 54, 1, 24, [.nil]⟩ := by kernel_rfl
theorem ty23 : tiOf Try.prog 23 = some ⟨.slc 30, 1, 24, [.nil]⟩ := by kernel_rfl
theorem ty24 : tiOf Try.prog 24 = some ⟨.slc 40, 1, 24, [.nil]⟩ := by kernel_rfl
theorem ty25 : tiOf Try.prog 25 = some ⟨.str, 2, 48, [.nil, .nil]⟩ := by kernel_rfl
theorem ty26 : tiOf Try.prog 26 = some ⟨.str, 2, 48, [.nil, .nil]⟩ := by kernel_rfl
theorem ty28 : tiOf Try.prog 28 = some ⟨.oth, 1, 8, [.nilF]⟩ := by kernel_rfl
theorem ty29 : tiOf Try.prog 29 = some ⟨.oth, 1, 8, [.nilF]⟩ := by kernel_rfl
theorem ty30 : tiOf Try.prog 30 = some ⟨.arr 32 5, 32, 32, List.replicate 32 (.int .u8 0)⟩ := by kernel_rfl
theorem ty31 : tiOf Try.prog 31 = some ⟨.int .i64, 1, 8, [.int .i64 0]⟩ := by kernel_rfl
theorem ty33 : tiOf Try.prog 33 = some ⟨.oth, 1, 8, [.nilF]⟩ := by kernel_rfl
theorem ty35 : tiOf Try.prog 35 = some ⟨.oth, 1, 8, [.nilF]⟩ := by kernel_rfl
theorem ty36 : tiOf Try.prog 36 = some ⟨.oth, 1, 8, [.nilF]⟩ := by kernel_rfl
theorem ty37 : tiOf Try.prog 37 = some ⟨.oth, 1, 8, [.nilF]⟩ := by kernel_rfl
theorem ty38 : tiOf Try.prog 38 = some ⟨.oth, 1, 8, [.nilF]⟩ := by kernel_rfl
theorem ty39 : tiOf Try.prog 39 = some ⟨.str, 33, 40, [.int .i64 0, .int .u8 0, .int .u8 0, .int .u8 0, .int .u8 0, .int .u8 0, .int .u8 0, .int .u8 0, .int .u8 0, .int .u8 0, .int .u8 0, .int .u8 0, .int .u8 0, .int .u8 0, .int .u8 0, .int .u8 0, .int .u8 0, .int .u8 0, .int .u8 0, .int .u8 0, .int .u8 0, .int .u8 0, .int .u8 0, .int .u8 0, .int .u8 0, .int .u8 0, .int .u8 0, .int .u8 0, .int .u8 0, .int .u8 0, .int .u8 0, .int .u8 0, .int .u8 0]⟩ := by kernel_rfl
theorem ty40 : tiOf Try.prog 40 = some ⟨.str, 33, 40, [.int .i64 0, .int .u8 0, .int .u8 0, .int .u8 0, .int .u8 0, .int .u8 0, .int .u8 0, .int .u8 0, .int .u8 0, .int .u8 0, .int .u8 0, .int .u8 0, .int .u8 0, .int .u8 0, .int .u8 0, .int .u8 0, .int .u8 0, .int .u8 0, .int .u8 0, .int .u8 0, .int .u8 0, .int .u8 0, .int .u8 0, .int .u8 0, .int .u8 0, .int .u8 0, .int .u8 0, .int .u8 0, .int .u8 0, .int .u8 0, .int .u8 0, .int .u8 0, .int .u8 0]⟩ := by kernel_rfl
theorem ty41 : tiOf Try.prog 41 = some ⟨.oth, 1, 8, [.nilF]⟩ := by kernel_rfl
theorem ty42 : tiOf Try.prog 42 = some ⟨.slc 46, 1, 24, [.nil]⟩ := by kernel_rfl
theorem ty44 : tiOf Try.prog 44 = some ⟨.oth, 1, 8, [.nilF]⟩ := by kernel_rfl
theorem ty45 : tiOf Try.prog 45 = some ⟨.str, 5, 40, [.int .i64 0, .int .i64 0, .int .i64 0, .int .i64 0, .bool false]⟩ := by kernel_rfl
theorem ty46 : tiOf Try.prog 46 = some ⟨.str, 5, 40, [.int .i64 0, .int .i64 0, .int .i64 0, .int .i64 0, .bool false]⟩ := by kernel_rfl
theorem ty47 : tiOf Try.prog 47 = some ⟨.oth, 1, 8, [.nilF]⟩ := by kernel_rfl
theorem ty49 : tiOf Try.prog 49 = some ⟨.oth, 1, 8, [.nilF]⟩ := by kernel_rfl
theorem ty50 : tiOf Try.prog 50 = some ⟨.oth, 1, 8, [.nilF]⟩ := by kernel_rfl
theorem ty51 : tiOf Try.prog 51 = some ⟨.oth, 1, 8, [.nilF]⟩ := by kernel_rfl
theorem ty52 : tiOf Try.prog 52 = some ⟨.oth, 1, 8, [.nilF]⟩ := by kernel_rfl
theorem ty53 : tiOf Try.prog 53 = some ⟨.str, 4, 40, [.int .i64 0, .int .i64 0, .int .i64 0, .str ⟨#[]⟩]⟩ := by kernel_rfl
theorem ty54 : tiOf Try.prog 54 = some ⟨.str, 4, 40, [.int .i64 0, .int .i64 0, .int .i64 0, .str ⟨#[]⟩]⟩ := by kernel_rfl
theorem ty55 : tiOf Try.prog 55 = some ⟨.oth, 1, 8, [.nilF]⟩ := by kernel_rfl
theorem ty56 : tiOf Try.prog 56 = some ⟨.oth, 1, 8, [.nilF]⟩ := by kernel_rfl
theorem ty57 : tiOf Try.prog 57 = some ⟨.oth, 1, 8, [.nilF]⟩ := by kernel_rfl
theorem ty58 : tiOf Try.prog 58 = some ⟨.oth, 1, 8, [.nilF]⟩ := by kernel_rfl
theorem ty59 : tiOf Try.prog 59 = some ⟨.oth, 1, 8, [.nilF]⟩ := by kernel_rfl
theorem ty60 : tiOf Try.prog 60 = some ⟨.oth, 1, 8, [.nilF]⟩ := by kernel_rfl
theorem ty61 : tiOf Try.prog 61 = some ⟨.oth, 1, 8, [.nilF]⟩ := by kernel_rfl
theorem ty62 : tiOf Try.prog 62 = some ⟨.str, 4, 32, [.int .i64 0, .int .i64 0, .int .i64 0, .int .i64 0]⟩ := by kernel_rfl
theorem ty63 : tiOf Try.prog 63 = some ⟨.str, 4, 32, [.int .i64 0, .int .i64 0, .int .i64 0, .int .i64 0]⟩ := by kernel_rfl
theorem ty64 : tiOf Try.prog 64 = some ⟨.oth, 1, 8, [.nilF]⟩ := by kernel_rfl
theorem ty65 : tiOf Try.prog 65 = some ⟨.oth, 1, 8, [.nilF]⟩ := by kernel_rfl
theorem ty66 : tiOf Try.prog 66 = some ⟨.oth, 1, 8, [.nilF]⟩ := by kernel_rfl
theorem ty67 : tiOf Try.prog 67 = some ⟨.oth, 1, 8, [.nilF]⟩ := by kernel_rfl
theorem ty68 : tiOf Try.prog 68 = some ⟨.oth, 1, 8, [.nilF]⟩ := by kernel_rfl
theorem ty69 : tiOf Try.prog 69 = some ⟨.slc 3, 1, 24, [.nil]⟩ := by kernel_rfl
theorem ty70 : tiOf Try.prog 70 = some ⟨.oth, 1, 8, [.nilF]⟩ := by kernel_rfl
theorem ty73 : tiOf Try.prog 73 = some ⟨.arr 0 16, 0, 0, []⟩ := by kernel_rfl
theorem ty74 : tiOf Try.prog 74 = some ⟨.str, 0, 0, []⟩ := by kernel_rfl
theorem ty75 : tiOf Try.prog 75 = some ⟨.str, 0, 0, []⟩ := by kernel_rfl
theorem ty76 : tiOf Try.prog 76 = some ⟨.oth, 1, 8, [.nilF]⟩ := by kernel_rfl
theorem ty77 : tiOf Try.prog 77 = some ⟨.int .u32, 1, 4, [.int .u32 0]⟩ := by kernel_rfl
theorem ty78 : tiOf Try.prog 78 = some ⟨.int .u8, 1, 1, [.int .u8 0]⟩ := by kernel_rfl
theorem ty79 : tiOf Try.prog 79 = some ⟨.int .u8, 1, 1, [.int .u8 0]⟩ := by kernel_rfl
theorem ty80 : tiOf Try.prog 80 = some ⟨.oth, 1, 8, [.nilF]⟩ := by kernel_rfl
theorem ty82 : tiOf Try.prog 82 = some ⟨.int .i32, 1, 4, [.int .i32 0]⟩ := by kernel_rfl
theorem ty83 : tiOf Try.prog 83 = some ⟨.int .i32, 1, 4, [.int .i32 0]⟩ := by kernel_rfl
theorem ly7 : laysOf Try.prog 7 = some [(0, 1), (1, 1), (2, 1), (3, 1)] := by kernel_rfl
theorem ly8 : laysOf Try.prog 8 = some [(0, 1), (1, 1), (2, 1), (3, 1)] := by kernel_rfl
theorem ly13 : laysOf Try.prog 13 = some [(0, 1), (1, 1)] := by kernel_rfl
theorem ly14 : laysOf Try.prog 14 = some [(0, 1), (1, 1)] := by kernel_rfl
theorem ly25 : laysOf Try.prog 25 = some [(0, 1), (1, 1)] := by kernel_rfl
theorem ly26 : laysOf Try.prog 26 = some [(0, 1), (1, 1)] := by kernel_rfl
theorem ly39 : laysOf Try.prog 39 = some [(0, 1), (1, 32)] := by kernel_rfl
theorem ly40 : laysOf Try.prog 40 = some [(0, 1), (1, 32)] := by kernel_rfl
theorem ly45 : laysOf Try.prog 45 = some [(0, 1), (1, 1), (2, 1), (3, 1), (4, 1)] := by kernel_rfl
theorem ly46 : laysOf Try.prog 46 = some [(0, 1), (1, 1), (2, 1), (3, 1), (4, 1)] := by kernel_rfl
theorem ly53 : laysOf Try.prog 53 = some [(0, 1), (1, 1), (2, 1), (3, 1)] := by kernel_rfl
theorem ly54 : laysOf Try.prog 54 = some [(0, 1), (1, 1), (2, 1), (3, 1)] := by kernel_rfl
theorem ly62 : laysOf Try.prog 62 = some [(0, 1), (1, 1), (2, 1), (3, 1)] := by kernel_rfl
theorem ly63 : laysOf Try.prog 63 = some [(0, 1), (1, 1), (2, 1), (3, 1)] := by kernel_rfl
theorem ly74 : laysOf Try.prog 74 = some [(0, 0)] := by kernel_rfl
theorem ly75 : laysOf Try.prog 75 = some [(0, 0)] := by kernel_rfl
def tyT : List (Nat × TI) := [(1, ⟨.oth, 1, 8, [.nilF]⟩), (2, ⟨.int .i64, 1, 8, [.int .i64 0]⟩), (3, ⟨.int .i64, 1, 8, [.int .i64 0]⟩), (4, ⟨.bool, 1, 1, [.bool false]⟩), (5, ⟨.int .u8, 1, 1, [.int .u8 0]⟩), (6, ⟨.int .u8, 1, 1, [.int .u8 0]⟩), (7, ⟨.str, 4, 24, [.int .i64 0, .int .i64 0, .bool false, .int .u8 0]⟩), (8, ⟨.str, 4, 24, [.int .i64 0, .int .i64 0, .bool false, .int .u8 0]⟩), (9, ⟨.strg, 1, 16, [.str ⟨#[]⟩]⟩), (10, ⟨.strg, 1, 16, [.str ⟨#[]⟩]⟩), (11, ⟨.strg, 1, 16, [.str ⟨#[]⟩]⟩), (12, ⟨.int .u64, 1, 8, [.int .u64 0]⟩), (13, ⟨.str, 2, 24, [.str ⟨#[]⟩, .int .u64 0]⟩), (14, ⟨.str, 2, 24, [.str ⟨#[]⟩, .int .u64 0]⟩), (21, ⟨.int .i32, 1, 4, [.int .i32 0]⟩), (22, ⟨.slc 54, 1, 24, [.nil]⟩), (23, ⟨.slc 30, 1, 24, [.nil]⟩), (24, ⟨.slc 40, 1, 24, [.nil]⟩), (25, ⟨.str, 2, 48, [.nil, .nil]⟩), (26, ⟨.str, 2, 48, [.nil, .nil]⟩), (28, ⟨.oth, 1, 8, [.nilF]⟩), (29, ⟨.oth, 1, 8, [.nilF]⟩), (30, ⟨.arr 32 5, 32, 32, List.replicate 32 (.int .u8 0)⟩), (31, ⟨.int .i64, 1, 8, [.int .i64 0]⟩), (33, ⟨.oth, 1, 8, [.nilF]⟩), (35, ⟨.oth, 1, 8, [.nilF]⟩), (36, ⟨.oth, 1, 8, [.nilF]⟩), (37, ⟨.oth, 1, 8, [.nilF]⟩), (38, ⟨.oth, 1, 8, [.nilF]⟩), (39, ⟨.str, 33, 40, [.int .i64 0, .int .u8 0, .int .u8 0, .int .u8 0, .int .u8 0, .int .u8 0, .int .u8 0, .int .u8 0, .int .u8 0, .int .u8 0, .int .u8 0, .int .u8 0, .int .u8 0, .int .u8 0, .int .u8 0, .int .u8 0, .int .u8 0, .int .u8 0, .int .u8 0, .int .u8 0, .int .u8 0, .int .u8 0, .int .u8 0, .int .u8 0, .int .u8 0, .int .u8 0, .int .u8 0, .int .u8 0, .int .u8 0, .int .u8 0, .int .u8 0, .int .u8 0, .int .u8 0]⟩), (40, ⟨.str, 33, 40, [.int .i64 0, .int .u8 0, .int .u8 0, .int .u8 0, .int .u8 0, .int .u8 0, .int .u8 0, .int .u8 0, .int .u8 0, .int .u8 0, .int .u8 0, .int .u8 0, .int .u8 0, .int .u8 0, .int .u8 0, .int .u8 0, .int .u8 0, .int .u8 0, .int .u8 0, .int .u8 0, .int .u8 0, .int .u8 0, .int .u8 0, .int .u8 0, .int .u8 0, .int .u8 0, .int .u8 0, .int .u8 0, .int .u8 0, .int .u8 0, .int .u8 0, .int .u8 0, .int .u8 0]⟩), (41, ⟨.oth, 1, 8, [.nilF]⟩), (42, ⟨.slc 46, 1, 24, [.nil]⟩), (44, ⟨.oth, 1, 8, [.nilF]⟩), (45, ⟨.str, 5, 40, [.int .i64 0, .int .i64 0, .int .i64 0, .int .i64 0, .bool false]⟩), (46, ⟨.str, 5, 40, [.int .i64 0, .int .i64 0, .int .i64 0, .int .i64 0, .bool false]⟩), (47, ⟨.oth, 1, 8, [.nilF]⟩), (49, ⟨.oth, 1, 8, [.nilF]⟩), (50, ⟨.oth, 1, 8, [.nilF]⟩), (51, ⟨.oth, 1, 8, [.nilF]⟩), (52, ⟨.oth, 1, 8, [.nilF]⟩), (53, ⟨.str, 4, 40, [.int .i64 0, .int .i64 0, .int .i64 0, .str ⟨#[]⟩]⟩), (54, ⟨.str, 4, 40, [.int .i64 0, .int .i64 0, .int .i64 0, .str ⟨#[]⟩]⟩), (55, ⟨.oth, 1, 8, [.nilF]⟩), (56, ⟨.oth, 1, 8, [.nilF]⟩), (57, ⟨.oth, 1, 8, [.nilF]⟩), (58, ⟨.oth, 1, 8, [.nilF]⟩), (59, ⟨.oth, 1, 8, [.nilF]⟩), (60, ⟨.oth, 1, 8, [.nilF]⟩), (61, ⟨.oth, 1, 8, [.nilF]⟩), (62, ⟨.str, 4, 32, [.int .i64 0, .int .i64 0, .int .i64 0, .int .i64 0]⟩), (63, ⟨.str, 4, 32, [.int .i64 0, .int .i64 0, .int .i64 0, .int .i64 0]⟩), (64, ⟨.oth, 1, 8, [.nilF]⟩), (65, ⟨.oth, 1, 8, [.nilF]⟩), (66, ⟨.oth, 1, 8, [.nilF]⟩), (67, ⟨.oth, 1, 8, [.nilF]⟩), (68, ⟨.oth, 1, 8, [.nilF]⟩), (69, ⟨.slc 3, 1, 24, [.nil]⟩), (70, ⟨.oth, 1, 8, [.nilF]⟩), (73, ⟨.arr 0 16, 0, 0, []⟩), (74, ⟨.str, 0, 0, []⟩), (75, ⟨.str, 0, 0, []⟩), (76, ⟨.oth, 1, 8, [.nilF]⟩), (77, ⟨.int .u32, 1, 4, [.int .u32 0]⟩), (78, ⟨.int .u8, 1, 1, [.int .u8 0]⟩), (79, ⟨.int .u8, 1, 1, [.int .u8 0]⟩), (80, ⟨.oth, 1, 8, [.nilF]⟩), (82, ⟨.int .i32, 1, 4, [.int .i32 0]⟩), (83, ⟨.int .i32, 1, 4, [.int .i32 0]⟩)]
def lyT : List (Nat × List (Nat × Nat)) := [(7, [(0, 1), (1, 1), (2, 1), (3, 1)]), (8, [(0, 1), (1, 1), (2, 1), (3, 1)]), (13, [(0, 1), (1, 1)]), (14, [(0, 1), (1, 1)]), (25, [(0, 1), (1, 1)]), (26, [(0, 1), (1, 1)]), (39, [(0, 1), (1, 32)]), (40, [(0, 1), (1, 32)]), (45, [(0, 1), (1, 1), (2, 1), (3, 1), (4, 1)]), (46, [(0, 1), (1, 1), (2, 1), (3, 1), (4, 1)]), (53, [(0, 1), (1, 1), (2, 1), (3, 1)]), (54, [(0, 1), (1, 1), (2, 1), (3, 1)]), (62, [(0, 1), (1, 1), (2, 1), (3, 1)]), (63, [(0, 1), (1, 1), (2, 1), (3, 1)]), (74, [(0, 0)]), (75, [(0, 0)])]
theorem look_mem {α : Type} : ∀ {l : List (Nat × α)} {i : Nat} {x : α}, look l i = some x → (i, x) ∈ l
  | [], i, x, h => by simp [look] at h
  | (k, y) :: l, i, x, h => by
    rw [look_cons] at h
    by_cases c : k = i
    · rw [if_pos c] at h
      obtain rfl := Option.some.inj h
      subst c
      simp
    · rw [if_neg c] at h
      exact List.mem_cons_of_mem _ (look_mem h)
theorem tyOk : ∀ p ∈ tyT, tiOf Try.prog p.1 = some p.2 := by
  simp only [tyT, List.forall_mem_cons]
  exact ⟨ty1, ty2, ty3, ty4, ty5, ty6, ty7, ty8, ty9, ty10, ty11, ty12, ty13, ty14, ty21, ty22, ty23, ty24, ty25, ty26, ty28, ty29, ty30, ty31, ty33, ty35, ty36, ty37, ty38, ty39, ty40, ty41, ty42, ty44, ty45, ty46, ty47, ty49, ty50, ty51, ty52, ty53, ty54, ty55, ty56, ty57, ty58, ty59, ty60, ty61, ty62, ty63, ty64, ty65, ty66, ty67, ty68, ty69, ty70, ty73, ty74, ty75, ty76, ty77, ty78, ty79, ty80, ty82, ty83, fun p h => by simp at h⟩
theorem lyOk : ∀ p ∈ lyT, laysOf Try.prog p.1 = some p.2 := by
  simp only [lyT, List.forall_mem_cons]
  exact ⟨ly7, ly8, ly13, ly14, ly25, ly26, ly39, ly40, ly45, ly46, ly53, ly54, ly62, ly63, ly74, ly75, fun p h => by simp at h⟩
/-- The environment of this program, with what its package variables hold. -/
def tyL (t : Nat) : Option TI := look tyT t
def lyL (t : Nat) : Option (List (Nat × Nat)) := look lyT t
/-- A walk to which nothing is lent; to which those boxes are lent. -/
def EnL (P : Program) (g : Nat → Option (List PV)) (ln : List Nat) : Env := ⟨P, ⟨g, ln⟩, tyL, lyL⟩
abbrev En (P : Program) (g : Nat → Option (List PV)) : Env := EnL P g []
theorem EnLOk (g : Nat → Option (List PV)) (ln : List Nat) : (EnL Try.prog g ln).Ok := ⟨fun t i h => tyOk (t, i) (look_mem h), fun t i h => lyOk (t, i) (look_mem h)⟩
theorem EnOk (g : Nat → Option (List PV)) : (En Try.prog g).Ok := EnLOk g []
theorem T1 {P : Program} {g : Nat → Option (List PV)} {ln : List Nat} : (EnL P g ln).T 1 = some ⟨.oth, 1, 8, [.nilF]⟩ := rfl
theorem T2 {P : Program} {g : Nat → Option (List PV)} {ln : List Nat} : (EnL P g ln).T 2 = some ⟨.int .i64, 1, 8, [.int .i64 0]⟩ := rfl
theorem T3 {P : Program} {g : Nat → Option (List PV)} {ln : List Nat} : (EnL P g ln).T 3 = some ⟨.int .i64, 1, 8, [.int .i64 0]⟩ := rfl
theorem T4 {P : Program} {g : Nat → Option (List PV)} {ln : List Nat} : (EnL P g ln).T 4 = some ⟨.bool, 1, 1, [.bool false]⟩ := rfl
theorem T5 {P : Program} {g : Nat → Option (List PV)} {ln : List Nat} : (EnL P g ln).T 5 = some ⟨.int .u8, 1, 1, [.int .u8 0]⟩ := rfl
theorem T6 {P : Program} {g : Nat → Option (List PV)} {ln : List Nat} : (EnL P g ln).T 6 = some ⟨.int .u8, 1, 1, [.int .u8 0]⟩ := rfl
theorem T7 {P : Program} {g : Nat → Option (List PV)} {ln : List Nat} : (EnL P g ln).T 7 = some ⟨.str, 4, 24, [.int .i64 0, .int .i64 0, .bool false, .int .u8 0]⟩ := rfl
theorem T8 {P : Program} {g : Nat → Option (List PV)} {ln : List Nat} : (EnL P g ln).T 8 = some ⟨.str, 4, 24, [.int .i64 0, .int .i64 0, .bool false, .int .u8 0]⟩ := rfl
theorem T9 {P : Program} {g : Nat → Option (List PV)} {ln : List Nat} : (EnL P g ln).T 9 = some ⟨.strg, 1, 16, [.str ⟨#[]⟩]⟩ := rfl
theorem T10 {P : Program} {g : Nat → Option (List PV)} {ln : List Nat} : (EnL P g ln).T 10 = some ⟨.strg, 1, 16, [.str ⟨#[]⟩]⟩ := rfl
theorem T11 {P : Program} {g : Nat → Option (List PV)} {ln : List Nat} : (EnL P g ln).T 11 = some ⟨.strg, 1, 16, [.str ⟨#[]⟩]⟩ := rfl
theorem T12 {P : Program} {g : Nat → Option (List PV)} {ln : List Nat} : (EnL P g ln).T 12 = some ⟨.int .u64, 1, 8, [.int .u64 0]⟩ := rfl
theorem T13 {P : Program} {g : Nat → Option (List PV)} {ln : List Nat} : (EnL P g ln).T 13 = some ⟨.str, 2, 24, [.str ⟨#[]⟩, .int .u64 0]⟩ := rfl
theorem T14 {P : Program} {g : Nat → Option (List PV)} {ln : List Nat} : (EnL P g ln).T 14 = some ⟨.str, 2, 24, [.str ⟨#[]⟩, .int .u64 0]⟩ := rfl
theorem T21 {P : Program} {g : Nat → Option (List PV)} {ln : List Nat} : (EnL P g ln).T 21 = some ⟨.int .i32, 1, 4, [.int .i32 0]⟩ := rfl
theorem T22 {P : Program} {g : Nat → Option (List PV)} {ln : List Nat} : (EnL P g ln).T 22 = some ⟨.slc 54, 1, 24, [.nil]⟩ := rfl
theorem T23 {P : Program} {g : Nat → Option (List PV)} {ln : List Nat} : (EnL P g ln).T 23 = some ⟨.slc 30, 1, 24, [.nil]⟩ := rfl
theorem T24 {P : Program} {g : Nat → Option (List PV)} {ln : List Nat} : (EnL P g ln).T 24 = some ⟨.slc 40, 1, 24, [.nil]⟩ := rfl
theorem T25 {P : Program} {g : Nat → Option (List PV)} {ln : List Nat} : (EnL P g ln).T 25 = some ⟨.str, 2, 48, [.nil, .nil]⟩ := rfl
theorem T26 {P : Program} {g : Nat → Option (List PV)} {ln : List Nat} : (EnL P g ln).T 26 = some ⟨.str, 2, 48, [.nil, .nil]⟩ := rfl
theorem T28 {P : Program} {g : Nat → Option (List PV)} {ln : List Nat} : (EnL P g ln).T 28 = some ⟨.oth, 1, 8, [.nilF]⟩ := rfl
theorem T29 {P : Program} {g : Nat → Option (List PV)} {ln : List Nat} : (EnL P g ln).T 29 = some ⟨.oth, 1, 8, [.nilF]⟩ := rfl
theorem T30 {P : Program} {g : Nat → Option (List PV)} {ln : List Nat} : (EnL P g ln).T 30 = some ⟨.arr 32 5, 32, 32, List.replicate 32 (.int .u8 0)⟩ := rfl
theorem T31 {P : Program} {g : Nat → Option (List PV)} {ln : List Nat} : (EnL P g ln).T 31 = some ⟨.int .i64, 1, 8, [.int .i64 0]⟩ := rfl
theorem T33 {P : Program} {g : Nat → Option (List PV)} {ln : List Nat} : (EnL P g ln).T 33 = some ⟨.oth, 1, 8, [.nilF]⟩ := rfl
theorem T35 {P : Program} {g : Nat → Option (List PV)} {ln : List Nat} : (EnL P g ln).T 35 = some ⟨.oth, 1, 8, [.nilF]⟩ := rfl
theorem T36 {P : Program} {g : Nat → Option (List PV)} {ln : List Nat} : (EnL P g ln).T 36 = some ⟨.oth, 1, 8, [.nilF]⟩ := rfl
theorem T37 {P : Program} {g : Nat → Option (List PV)} {ln : List Nat} : (EnL P g ln).T 37 = some ⟨.oth, 1, 8, [.nilF]⟩ := rfl
theorem T38 {P : Program} {g : Nat → Option (List PV)} {ln : List Nat} : (EnL P g ln).T 38 = some ⟨.oth, 1, 8, [.nilF]⟩ := rfl
theorem T39 {P : Program} {g : Nat → Option (List PV)} {ln : List Nat} : (EnL P g ln).T 39 = some ⟨.str, 33, 40, [.int .i64 0, .int .u8 0, .int .u8 0, .int .u8 0, .int .u8 0, .int .u8 0, .int .u8 0, .int .u8 0, .int .u8 0, .int .u8 0, .int .u8 0, .int .u8 0, .int .u8 0, .int .u8 0, .int .u8 0, .int .u8 0, .int .u8 0, .int .u8 0, .int .u8 0, .int .u8 0, .int .u8 0, .int .u8 0, .int .u8 0, .int .u8 0, .int .u8 0, .int .u8 0, .int .u8 0, .int .u8 0, .int .u8 0, .int .u8 0, .int .u8 0, .int .u8 0, .int .u8 0]⟩ := rfl
theorem T40 {P : Program} {g : Nat → Option (List PV)} {ln : List Nat} : (EnL P g ln).T 40 = some ⟨.str, 33, 40, [.int .i64 0, .int .u8 0, .int .u8 0, .int .u8 0, .int .u8 0, .int .u8 0, .int .u8 0, .int .u8 0, .int .u8 0, .int .u8 0, .int .u8 0, .int .u8 0, .int .u8 0, .int .u8 0, .int .u8 0, .int .u8 0, .int .u8 0, .int .u8 0, .int .u8 0, .int .u8 0, .int .u8 0, .int .u8 0, .int .u8 0, .int .u8 0, .int .u8 0, .int .u8 0, .int .u8 0, .int .u8 0, .int .u8 0, .int .u8 0, .int .u8 0, .int .u8 0, .int .u8 0]⟩ := rfl
theorem T41 {P : Program} {g : Nat → Option (List PV)} {ln : List Nat} : (EnL P g ln).T 41 = some ⟨.oth, 1, 8, [.nilF]⟩ := rfl
theorem T42 {P : Program} {g : Nat → Option (List PV)} {ln : List Nat} : (EnL P g ln).T 42 = some ⟨.slc 46, 1, 24, [.nil]⟩ := rfl
theorem T44 {P : Program} {g : Nat → Option (List PV)} {ln : List Nat} : (EnL P g ln).T 44 = some ⟨.oth, 1, 8, [.nilF]⟩ := rfl
theorem T45 {P : Program} {g : Nat → Option (List PV)} {ln : List Nat} : (EnL P g ln).T 45 = some ⟨.str, 5, 40, [.int .i64 0, .int .i64 0, .int .i64 0, .int .i64 0, .bool false]⟩ := rfl
theorem T46 {P : Program} {g : Nat → Option (List PV)} {ln : List Nat} : (EnL P g ln).T 46 = some ⟨.str, 5, 40, [.int .i64 0, .int .i64 0, .int .i64 0, .int .i64 0, .bool false]⟩ := rfl
theorem T47 {P : Program} {g : Nat → Option (List PV)} {ln : List Nat} : (EnL P g ln).T 47 = some ⟨.oth, 1, 8, [.nilF]⟩ := rfl
theorem T49 {P : Program} {g : Nat → Option (List PV)} {ln : List Nat} : (EnL P g ln).T 49 = some ⟨.oth, 1, 8, [.nilF]⟩ := rfl
theorem T50 {P : Program} {g : Nat → Option (List PV)} {ln : List Nat} : (EnL P g ln).T 50 = some ⟨.oth, 1, 8, [.nilF]⟩ := rfl
theorem T51 {P : Program} {g : Nat → Option (List PV)} {ln : List Nat} : (EnL P g ln).T 51 = some ⟨.oth, 1, 8, [.nilF]⟩ := rfl
theorem T52 {P : Program} {g : Nat → Option (List PV)} {ln : List Nat} : (EnL P g ln).T 52 = some ⟨.oth, 1, 8, [.nilF]⟩ := rfl
theorem T53 {P : Program} {g : Nat → Option (List PV)} {ln : List Nat} : (EnL P g ln).T 53 = some ⟨.str, 4, 40, [.int .i64 0, .int .i64 0, .int .i64 0, .str ⟨#[]⟩]⟩ := rfl
theorem T54 {P : Program} {g : Nat → Option (List PV)} {ln : List Nat} : (EnL P g ln).T 54 = some ⟨.str, 4, 40, [.int .i64 0, .int .i64 0, .int .i64 0, .str ⟨#[]⟩]⟩ := rfl
theorem T55 {P : Program} {g : Nat → Option (List PV)} {ln : List Nat} : (EnL P g ln).T 55 = some ⟨.oth, 1, 8, [.nilF]⟩ := rfl
theorem T56 {P : Program} {g : Nat → Option (List PV)} {ln : List Nat} : (EnL P g ln).T 56 = some ⟨.oth, 1, 8, [.nilF]⟩ := rfl
theorem T57 {P : Program} {g : Nat → Option (List PV)} {ln : List Nat} : (EnL P g ln).T 57 = some ⟨.oth, 1, 8, [.nilF]⟩ := rfl
theorem T58 {P : Program} {g : Nat → Option (List PV)} {ln : List Nat} : (EnL P g ln).T 58 = some ⟨.oth, 1, 8, [.nilF]⟩ := rfl
theorem T59 {P : Program} {g : Nat → Option (List PV)} {ln : List Nat} : (EnL P g ln).T 59 = some ⟨.oth, 1, 8, [.nilF]⟩ := rfl
theorem T60 {P : Program} {g : Nat → Option (List PV)} {ln : List Nat} : (EnL P g ln).T 60 = some ⟨.oth, 1, 8, [.nilF]⟩ := rfl
theorem T61 {P : Program} {g : Nat → Option (List PV)} {ln : List Nat} : (EnL P g ln).T 61 = some ⟨.oth, 1, 8, [.nilF]⟩ := rfl
theorem T62 {P : Program} {g : Nat → Option (List PV)} {ln : List Nat} : (EnL P g ln).T 62 = some ⟨.str, 4, 32, [.int .i64 0, .int .i64 0, .int .i64 0, .int .i64 0]⟩ := rfl
theorem T63 {P : Program} {g : Nat → Option (List PV)} {ln : List Nat} : (EnL P g ln).T 63 = some ⟨.str, 4, 32, [.int .i64 0, .int .i64 0, .int .i64 0, .int .i64 0]⟩ := rfl
theorem T64 {P : Program} {g : Nat → Option (List PV)} {ln : List Nat} : (EnL P g ln).T 64 = some ⟨.oth, 1, 8, [.nilF]⟩ := rfl
theorem T65 {P : Program} {g : Nat → Option (List PV)} {ln : List Nat} : (EnL P g ln).T 65 = some ⟨.oth, 1, 8, [.nilF]⟩ := rfl
theorem T66 {P : Program} {g : Nat → Option (List PV)} {ln : List Nat} : (EnL P g ln).T 66 = some ⟨.oth, 1, 8, [.nilF]⟩ := rfl
theorem T67 {P : Program} {g : Nat → Option (List PV)} {ln : List Nat} : (EnL P g ln).T 67 = some ⟨.oth, 1, 8, [.nilF]⟩ := rfl
theorem T68 {P : Program} {g : Nat → Option (List PV)} {ln : List Nat} : (EnL P g ln).T 68 = some ⟨.oth, 1, 8, [.nilF]⟩ := rfl
theorem T69 {P : Program} {g : Nat → Option (List PV)} {ln : List Nat} : (EnL P g ln).T 69 = some ⟨.slc 3, 1, 24, [.nil]⟩ := rfl
theorem T70 {P : Program} {g : Nat → Option (List PV)} {ln : List Nat} : (EnL P g ln).T 70 = some ⟨.oth, 1, 8, [.nilF]⟩ := rfl
theorem T73 {P : Program} {g : Nat → Option (List PV)} {ln : List Nat} : (EnL P g ln).T 73 = some ⟨.arr 0 16, 0, 0, []⟩ := rfl
theorem T74 {P : Program} {g : Nat → Option (List PV)} {ln : List Nat} : (EnL P g ln).T 74 = some ⟨.str, 0, 0, []⟩ := rfl
theorem T75 {P : Program} {g : Nat → Option (List PV)} {ln : List Nat} : (EnL P g ln).T 75 = some ⟨.str, 0, 0, []⟩ := rfl
theorem T76 {P : Program} {g : Nat → Option (List PV)} {ln : List Nat} : (EnL P g ln).T 76 = some ⟨.oth, 1, 8, [.nilF]⟩ := rfl
theorem T77 {P : Program} {g : Nat → Option (List PV)} {ln : List Nat} : (EnL P g ln).T 77 = some ⟨.int .u32, 1, 4, [.int .u32 0]⟩ := rfl
theorem T78 {P : Program} {g : Nat → Option (List PV)} {ln : List Nat} : (EnL P g ln).T 78 = some ⟨.int .u8, 1, 1, [.int .u8 0]⟩ := rfl
theorem T79 {P : Program} {g : Nat → Option (List PV)} {ln : List Nat} : (EnL P g ln).T 79 = some ⟨.int .u8, 1, 1, [.int .u8 0]⟩ := rfl
theorem T80 {P : Program} {g : Nat → Option (List PV)} {ln : List Nat} : (EnL P g ln).T 80 = some ⟨.oth, 1, 8, [.nilF]⟩ := rfl
theorem T82 {P : Program} {g : Nat → Option (List PV)} {ln : List Nat} : (EnL P g ln).T 82 = some ⟨.int .i32, 1, 4, [.int .i32 0]⟩ := rfl
theorem T83 {P : Program} {g : Nat → Option (List PV)} {ln : List Nat} : (EnL P g ln).T 83 = some ⟨.int .i32, 1, 4, [.int .i32 0]⟩ := rfl
theorem L7 {P : Program} {g : Nat → Option (List PV)} {ln : List Nat} : (EnL P g ln).L 7 = some [(0, 1), (1, 1), (2, 1), (3, 1)] := rfl
theorem L8 {P : Program} {g : Nat → Option (List PV)} {ln : List Nat} : (EnL P g ln).L 8 = some [(0, 1), (1, 1), (2, 1), (3, 1)] := rfl
theorem L13 {P : Program} {g : Nat → Option (List PV)} {ln : List Nat} : (EnL P g ln).L 13 = some [(0, 1), (1, 1)] := rfl
theorem L14 {P : Program} {g : Nat → Option (List PV)} {ln : List Nat} : (EnL P g ln).L 14 = some [(0, 1), (1, 1)] := rfl
theorem L25 {P : Program} {g : Nat → Option (List PV)} {ln : List Nat} : (EnL P g ln).L 25 = some [(0, 1), (1, 1)] := rfl
theorem L26 {P : Program} {g : Nat → Option (List PV)} {ln : List Nat} : (EnL P g ln).L 26 = some [(0, 1), (1, 1)] := rfl
theorem L39 {P : Program} {g : Nat → Option (List PV)} {ln : List Nat} : (EnL P g ln).L 39 = some [(0, 1), (1, 32)] := rfl
theorem L40 {P : Program} {g : Nat → Option (List PV)} {ln : List Nat} : (EnL P g ln).L 40 = some [(0, 1), (1, 32)] := rfl
theorem L45 {P : Program} {g : Nat → Option (List PV)} {ln : List Nat} : (EnL P g ln).L 45 = some [(0, 1), (1, 1), (2, 1), (3, 1), (4, 1)] := rfl
theorem L46 {P : Program} {g : Nat → Option (List PV)} {ln : List Nat} : (EnL P g ln).L 46 = some [(0, 1), (1, 1), (2, 1), (3, 1), (4, 1)] := rfl
theorem L53 {P : Program} {g : Nat → Option (List PV)} {ln : List Nat} : (EnL P g ln).L 53 = some [(0, 1), (1, 1), (2, 1), (3, 1)] := rfl
theorem L54 {P : Program} {g : Nat → Option (List PV)} {ln : List Nat} : (EnL P g ln).L 54 = some [(0, 1), (1, 1), (2, 1), (3, 1)] := rfl
theorem L62 {P : Program} {g : Nat → Option (List PV)} {ln : List Nat} : (EnL P g ln).L 62 = some [(0, 1), (1, 1), (2, 1), (3, 1)] := rfl
theorem L63 {P : Program} {g : Nat → Option (List PV)} {ln : List Nat} : (EnL P g ln).L 63 = some [(0, 1), (1, 1), (2, 1), (3, 1)] := rfl
theorem L74 {P : Program} {g : Nat → Option (List PV)} {ln : List Nat} : (EnL P g ln).L 74 = some [(0, 0)] := rfl
theorem L75 {P : Program} {g : Nat → Option (List PV)} {ln : List Nat} : (EnL P g ln).L 75 = some [(0, 0)] := rfl
theorem mixed : Try.prog.follows .mixedOrders = true := by kernel_rfl
end Go.Proofs.Ytokjeodlcilfpaa.Vm
