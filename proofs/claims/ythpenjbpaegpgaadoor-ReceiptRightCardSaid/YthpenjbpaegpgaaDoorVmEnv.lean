/- The types of this program as the value machine reads them, each checked by the kernel. Conditions: none. -/
import Derived.Test.YthpenjbpaegpgaaDoorProg
import Derived.Test.YthpenjbpaegpgaaDoorVm4
namespace Go.Proofs.YthpenjbpaegpgaaDoor.Vm
open Go Go.RowKit
set_option maxRecDepth 100000
theorem ty1 : tiOf Tryd.prog 1 = some ⟨.oth, 1, 8, [.nilF]⟩ := by kernel_rfl
theorem ty2 : tiOf Tryd.prog 2 = some ⟨.int .i64, 1, 8, [.int .i64 0]⟩ := by kernel_rfl
theorem ty3 : tiOf Tryd.prog 3 = some ⟨.int .i64, 1, 8, [.int .i64 0]⟩ := by kernel_rfl
theorem ty4 : tiOf Tryd.prog 4 = some ⟨.bool, 1, 1, [.bool false]⟩ := by kernel_rfl
theorem ty5 : tiOf Tryd.prog 5 = some ⟨.int .u8, 1, 1, [.int .u8 0]⟩ := by kernel_rfl
theorem ty6 : tiOf Tryd.prog 6 = some ⟨.int .u8, 1, 1, [.int .u8 0]⟩ := by kernel_rfl
theorem ty7 : tiOf Tryd.prog 7 = some ⟨.str, 4, 24, [.int .i64 0, .int .i64 0, .bool false, .int .u8 0]⟩ := by kernel_rfl
theorem ty8 : tiOf Tryd.prog 8 = some ⟨.str, 4, 24, [.int .i64 0, .int .i64 0, .bool false, .int .u8 0]⟩ := by kernel_rfl
theorem ty9 : tiOf Tryd.prog 9 = some ⟨.strg, 1, 16, [.str ⟨#[]⟩]⟩ := by kernel_rfl
theorem ty10 : tiOf Tryd.prog 10 = some ⟨.strg, 1, 16, [.str ⟨#[]⟩]⟩ := by kernel_rfl
theorem ty11 : tiOf Tryd.prog 11 = some ⟨.strg, 1, 16, [.str ⟨#[]⟩]⟩ := by kernel_rfl
theorem ty12 : tiOf Tryd.prog 12 = some ⟨.int .u64, 1, 8, [.int .u64 0]⟩ := by kernel_rfl
theorem ty13 : tiOf Tryd.prog 13 = some ⟨.str, 2, 24, [.str ⟨#[]⟩, .int .u64 0]⟩ := by kernel_rfl
theorem ty14 : tiOf Tryd.prog 14 = some ⟨.str, 2, 24, [.str ⟨#[]⟩, .int .u64 0]⟩ := by kernel_rfl
theorem ty21 : tiOf Tryd.prog 21 = some ⟨.int .i32, 1, 4, [.int .i32 0]⟩ := by kernel_rfl
theorem ty22 : tiOf Tryd.prog 22 = some ⟨.slc 29, 1, 24, [.nil]⟩ := by kernel_rfl
theorem ty23 : tiOf Tryd.prog 23 = some ⟨.oth, 1, 8, [.nilF]⟩ := by kernel_rfl
theorem ty24 : tiOf Tryd.prog 24 = some ⟨.slc 31, 1, 24, [.nil]⟩ := by kernel_rfl
theorem ty25 : tiOf Tryd.prog 25 = some ⟨.slc 40, 1, 24, [.nil]⟩ := by kernel_rfl
theorem ty27 : tiOf Tryd.prog 27 = some ⟨.oth, 1, 8, [.nilF]⟩ := by kernel_rfl
theorem ty28 : tiOf Tryd.prog 28 = some ⟨.str, 4, 40, [.int .i64 0, .int .i64 0, .int .i64 0, .str ⟨#[]⟩]⟩ := by kernel_rfl
theorem ty29 : tiOf Tryd.prog 29 = some ⟨.str, 4, 40, [.int .i64 0, .int .i64 0, .int .i64 0, .str ⟨#[]⟩]⟩ := by kernel_rfl
theorem ty30 : tiOf Tryd.prog 30 = some ⟨.oth, 1, 8, [.nilF]⟩ := by kernel_rfl
theorem ty31 : tiOf Tryd.prog 31 = some ⟨.slc 5, 1, 24, [.nil]⟩ := by kernel_rfl
theorem ty32 : tiOf Tryd.prog 32 = some ⟨.int .i64, 1, 8, [.int .i64 0]⟩ := by kernel_rfl
theorem ty34 : tiOf Tryd.prog 34 = some ⟨.oth, 1, 8, [.nilF]⟩ := by kernel_rfl
theorem ty36 : tiOf Tryd.prog 36 = some ⟨.oth, 1, 8, [.nilF]⟩ := by kernel_rfl
theorem ty37 : tiOf Tryd.prog 37 = some ⟨.oth, 1, 8, [.nilF]⟩ := by kernel_rfl
theorem ty38 : tiOf Tryd.prog 38 = some ⟨.oth, 1, 8, [.nilF]⟩ := by kernel_rfl
theorem ty39 : tiOf Tryd.prog 39 = some ⟨.str, 3, 56, [.bool false, .nil, .nil]⟩ := by kernel_rfl
theorem ty40 : tiOf Tryd.prog 40 = some ⟨.str, 3, 56, [.bool false, .nil, .nil]⟩ := by kernel_rfl
theorem ty41 : tiOf Tryd.prog 41 = some ⟨.oth, 1, 8, [.nilF]⟩ := by kernel_rfl
theorem ty42 : tiOf Tryd.prog 42 = some ⟨.oth, 1, 8, [.nilF]⟩ := by kernel_rfl
theorem ty43 : tiOf Tryd.prog 43 = some ⟨.oth, 1, 8, [.nilF]⟩ := by kernel_rfl
theorem ty44 : tiOf Tryd.prog 44 = some ⟨.slc 24, 1, 24, [.nil]⟩ := by kernel_rfl
theorem ty45 : tiOf Tryd.prog 45 = some ⟨.oth, 1, 8, [.nilF]⟩ := by kernel_rfl
theorem ty46 : tiOf Tryd.prog 46 = some ⟨.oth, 1, 8, [.nilF]⟩ := by kernel_rfl
theorem ty47 : tiOf Tryd.prog 47 = some ⟨.oth, 1, 8, [.nilF]⟩ := by kernel_rfl
theorem ty48 : tiOf Tryd.prog 48 = some ⟨.oth, 1, 8, [.nilF]⟩ := by kernel_rfl
theorem ty49 : tiOf Tryd.prog 49 = some ⟨.oth, 1, 8, [.nilF]⟩ := by kernel_rfl
theorem ty50 : tiOf Tryd.prog 50 = some ⟨.oth, 1, 8, [.nilF]⟩ := by kernel_rfl
theorem ty51 : tiOf Tryd.prog 51 = some ⟨.oth, 1, 8, [.nilF]⟩ := by kernel_rfl
theorem ty52 : tiOf Tryd.prog 52 = some ⟨.oth, 1, 8, [.nilF]⟩ := by kernel_rfl
theorem ty53 : tiOf Tryd.prog 53 = some ⟨.oth, 1, 8, [.nilF]⟩ := by kernel_rfl
theorem ty54 : tiOf Tryd.prog 54 = some ⟨.oth, 1, 8, [.nilF]⟩ := by kernel_rfl
theorem ty55 : tiOf Tryd.prog 55 = some ⟨.arr 32 5, 32, 32, List.replicate 32 (.int .u8 0)⟩ := by kernel_rfl
theorem ty56 : tiOf Tryd.prog 56 = some ⟨.oth, 1, 8, [.nilF]⟩ := by kernel_rfl
theorem ty57 : tiOf Tryd.prog 57 = some ⟨.oth, 1, 8, [.nilF]⟩ := by kernel_rfl
theorem ty58 : tiOf Tryd.prog 58 = some ⟨.oth, 1, 8, [.nilF]⟩ := by kernel_rfl
theorem ty59 : tiOf Tryd.prog 59 = some ⟨.oth, 1, 8, [.nilF]⟩ := by kernel_rfl
theorem ty61 : tiOf Tryd.prog 61 = some ⟨.oth, 1, 8, [.nilF]⟩ := by kernel_rfl
theorem ty62 : tiOf Tryd.prog 62 = some ⟨.oth, 1, 8, [.nilF]⟩ := by kernel_rfl
theorem ty63 : tiOf Tryd.prog 63 = some ⟨.oth, 1, 8, [.nilF]⟩ := by kernel_rfl
theorem ty64 : tiOf Tryd.prog 64 = some ⟨.int .u64, 1, 8, [.int .u64 0]⟩ := by kernel_rfl
theorem ty65 : tiOf Tryd.prog 65 = some ⟨.arr 64 5, 64, 64, List.replicate 64 (.int .u8 0)⟩ := by kernel_rfl
theorem ty66 : tiOf Tryd.prog 66 = some ⟨.oth, 1, 8, [.nilF]⟩ := by kernel_rfl
theorem ty67 : tiOf Tryd.prog 67 = some ⟨.int .u32, 1, 4, [.int .u32 0]⟩ := by kernel_rfl
theorem ty68 : tiOf Tryd.prog 68 = some ⟨.arr 8 67, 8, 32, [.int .u32 0, .int .u32 0, .int .u32 0, .int .u32 0, .int .u32 0, .int .u32 0, .int .u32 0, .int .u32 0]⟩ := by kernel_rfl
theorem ty69 : tiOf Tryd.prog 69 = some ⟨.str, 74, 112, [.int .u32 0, .int .u32 0, .int .u32 0, .int .u32 0, .int .u32 0, .int .u32 0, .int .u32 0, .int .u32 0, .int .u8 0, .int .u8 0, .int .u8 0, .int .u8 0, .int .u8 0, .int .u8 0, .int .u8 0, .int .u8 0, .int .u8 0, .int .u8 0, .int .u8 0, .int .u8 0, .int .u8 0, .int .u8 0, .int .u8 0, .int .u8 0, .int .u8 0, .int .u8 0, .int .u8 0, .int .u8 0, .int .u8 0, .int .u8 0, .int .u8 0, .int .u8 0, .int .u8 0, .int .u8 0, .int .u8 0, .int .u8 0, .int .u8 0, .int .u8 0, .int .u8 0, .int .u8 0, .int .u8 0, .int .u8 0, .int .u8 0, .int .u8 0, .int .u8 0, .int .u8 0, .int .u8 0, .int .u8 0, .int .u8 0, .int .u8 0, .int .u8 0, .int .u8 0, .int .u8 0, .int .u8 0, .int .u8 0, .int .u8 0, .int .u8 0, .int .u8 0, .int .u8 0, .int .u8 0, .int .u8 0, .int .u8 0, .int .u8 0, .int .u8 0, .int .u8 0, .int .u8 0, .int .u8 0, .int .u8 0, .int .u8 0, .int .u8 0, .int .u8 0, .int .u8 0, .int .i64 0, .int .i64 0]⟩ := by kernel_rfl
theorem ty70 : tiOf Tryd.prog 70 = some ⟨.str, 74, 112, [.int .u32 0, .int .u32 0, .int .u32 0, .int .u32 0, .int .u32 0, .int .u32 0, .int .u32 0, .int .u32 0, .int .u8 0, .int .u8 0, .int .u8 0, .int .u8 0, .int .u8 0, .int .u8 0, .int .u8 0, .int .u8 0, .int .u8 0, .int .u8 0, .int .u8 0, .int .u8 0, .int .u8 0, .int .u8 0, .int .u8 0, .int .u8 0, .int .u8 0, .int .u8 0, .int .u8 0, .int .u8 0, .int .u8 0, .int .u8 0, .int .u8 0, .int .u8 0, .int .u8 0, .int .u8 0, .int .u8 0, .int .u8 0, .int .u8 0, .int .u8 0, .int .u8 0, .int .u8 0, .int .u8 0, .int .u8 0, .int .u8 0, .int .u8 0, .int .u8 0, .int .u8 0, .int .u8 0, .int .u8 0, .int .u8 0, .int .u8 0, .int .u8 0, .int .u8 0, .int .u8 0, .int .u8 0, .int .u8 0, .int .u8 0, .int .u8 0, .int .u8 0, .int .u8 0, .int .u8 0, .int .u8 0, .int .u8 0, .int .u8 0, .int .u8 0, .int .u8 0, .int .u8 0, .int .u8 0, .int .u8 0, .int .u8 0, .int .u8 0, .int .u8 0, .int .u8 0, .int .i64 0, .int .i64 0]⟩ := by kernel_rfl
theorem ty71 : tiOf Tryd.prog 71 = some ⟨.oth, 1, 8, [.nilF]⟩ := by kernel_rfl
theorem ty72 : tiOf Tryd.prog 72 = some ⟨.oth, 1, 8, [.nilF]⟩ := by kernel_rfl
theorem ty73 : tiOf Tryd.prog 73 = some ⟨.int .u64, 1, 8, [.int .u64 0]⟩ := by kernel_rfl
theorem ty74 : tiOf Tryd.prog 74 = some ⟨.oth, 1, 8, [.nilF]⟩ := by kernel_rfl
theorem ty75 : tiOf Tryd.prog 75 = some ⟨.arr 64 67, 64, 256, List.replicate 64 (.int .u32 0)⟩ := by kernel_rfl
theorem ty76 : tiOf Tryd.prog 76 = some ⟨.oth, 1, 8, [.nilF]⟩ := by kernel_rfl
theorem ty77 : tiOf Tryd.prog 77 = some ⟨.oth, 1, 8, [.nilF]⟩ := by kernel_rfl
theorem ty80 : tiOf Tryd.prog 80 = some ⟨.arr 0 16, 0, 0, []⟩ := by kernel_rfl
theorem ty81 : tiOf Tryd.prog 81 = some ⟨.str, 0, 0, []⟩ := by kernel_rfl
theorem ty82 : tiOf Tryd.prog 82 = some ⟨.str, 0, 0, []⟩ := by kernel_rfl
theorem ty83 : tiOf Tryd.prog 83 = some ⟨.oth, 1, 8, [.nilF]⟩ := by kernel_rfl
theorem ty84 : tiOf Tryd.prog 84 = some ⟨.int .u8, 1, 1, [.int .u8 0]⟩ := by kernel_rfl
theorem ty85 : tiOf Tryd.prog 85 = some ⟨.int .u8, 1, 1, [.int .u8 0]⟩ := by kernel_rfl
theorem ty86 : tiOf Tryd.prog 86 = some ⟨.oth, 1, 8, [.nilF]⟩ := by kernel_rfl
theorem ty88 : tiOf Tryd.prog 88 = some ⟨.int .i32, 1, 4, [.int .i32 0]⟩ := by kernel_rfl
theorem ty89 : tiOf Tryd.prog 89 = some ⟨.int .i32, 1, 4, [.int .i32 0]⟩ := by kernel_rfl
theorem ly7 : laysOf Tryd.prog 7 = some [(0, 1), (1, 1), (2, 1), (3, 1)] := by kernel_rfl
theorem ly8 : laysOf Tryd.prog 8 = some [(0, 1), (1, 1), (2, 1), (3, 1)] := by kernel_rfl
theorem ly13 : laysOf Tryd.prog 13 = some [(0, 1), (1, 1)] := by kernel_rfl
theorem ly14 : laysOf Tryd.prog 14 = some [(0, 1), (1, 1)] := by kernel_rfl
theorem ly28 : laysOf Tryd.prog 28 = some [(0, 1), (1, 1), (2, 1), (3, 1)] := by kernel_rfl
theorem ly29 : laysOf Tryd.prog 29 = some [(0, 1), (1, 1), (2, 1), (3, 1)] := by kernel_rfl
theorem ly39 : laysOf Tryd.prog 39 = some [(0, 1), (1, 1), (2, 1)] := by kernel_rfl
theorem ly40 : laysOf Tryd.prog 40 = some [(0, 1), (1, 1), (2, 1)] := by kernel_rfl
theorem ly69 : laysOf Tryd.prog 69 = some [(0, 8), (8, 64), (72, 1), (73, 1)] := by kernel_rfl
theorem ly70 : laysOf Tryd.prog 70 = some [(0, 8), (8, 64), (72, 1), (73, 1)] := by kernel_rfl
theorem ly81 : laysOf Tryd.prog 81 = some [(0, 0)] := by kernel_rfl
theorem ly82 : laysOf Tryd.prog 82 = some [(0, 0)] := by kernel_rfl
def tyT : List (Nat × TI) := [(1, ⟨.oth, 1, 8, [.nilF]⟩), (2, ⟨.int .i64, 1, 8, [.int .i64 0]⟩), (3, ⟨.int .i64, 1, 8, [.int .i64 0]⟩), (4, ⟨.bool, 1, 1, [.bool false]⟩), (5, ⟨.int .u8, 1, 1, [.int .u8 0]⟩), (6, ⟨.int .u8, 1, 1, [.int .u8 0]⟩), (7, ⟨.str, 4, 24, [.int .i64 0, .int .i64 0, .bool false, .int .u8 0]⟩), (8, ⟨.str, 4, 24, [.int .i64 0, .int .i64 0, .bool false, .int .u8 0]⟩), (9, ⟨.strg, 1, 16, [.str ⟨#[]⟩]⟩), (10, ⟨.strg, 1, 16, [.str ⟨#[]⟩]⟩), (11, ⟨.strg, 1, 16, [.str ⟨#[]⟩]⟩), (12, ⟨.int .u64, 1, 8, [.int .u64 0]⟩), (13, ⟨.str, 2, 24, [.str ⟨#[]⟩, .int .u64 0]⟩), (14, ⟨.str, 2, 24, [.str ⟨#[]⟩, .int .u64 0]⟩), (21, ⟨.int .i32, 1, 4, [.int .i32 0]⟩), (22, ⟨.slc 29, 1, 24, [.nil]⟩), (23, ⟨.oth, 1, 8, [.nilF]⟩), (24, ⟨.slc 31, 1, 24, [.nil]⟩), (25, ⟨.slc 40, 1, 24, [.nil]⟩), (27, ⟨.oth, 1, 8, [.nilF]⟩), (28, ⟨.str, 4, 40, [.int .i64 0, .int .i64 0, .int .i64 0, .str ⟨#[]⟩]⟩), (29, ⟨.str, 4, 40, [.int .i64 0, .int .i64 0, .int .i64 0, .str ⟨#[]⟩]⟩), (30, ⟨.oth, 1, 8, [.nilF]⟩), (31, ⟨.slc 5, 1, 24, [.nil]⟩), (32, ⟨.int .i64, 1, 8, [.int .i64 0]⟩), (34, ⟨.oth, 1, 8, [.nilF]⟩), (36, ⟨.oth, 1, 8, [.nilF]⟩), (37, ⟨.oth, 1, 8, [.nilF]⟩), (38, ⟨.oth, 1, 8, [.nilF]⟩), (39, ⟨.str, 3, 56, [.bool false, .nil, .nil]⟩), (40, ⟨.str, 3, 56, [.bool false, .nil, .nil]⟩), (41, ⟨.oth, 1, 8, [.nilF]⟩), (42, ⟨.oth, 1, 8, [.nilF]⟩), (43, ⟨.oth, 1, 8, [.nilF]⟩), (44, ⟨.slc 24, 1, 24, [.nil]⟩), (45, ⟨.oth, 1, 8, [.nilF]⟩), (46, ⟨.oth, 1, 8, [.nilF]⟩), (47, ⟨.oth, 1, 8, [.nilF]⟩), (48, ⟨.oth, 1, 8, [.nilF]⟩), (49, ⟨.oth, 1, 8, [.nilF]⟩), (50, ⟨.oth, 1, 8, [.nilF]⟩), (51, ⟨.oth, 1, 8, [.nilF]⟩), (52, ⟨.oth, 1, 8, [.nilF]⟩), (53, ⟨.oth, 1, 8, [.nilF]⟩), (54, ⟨.oth, 1, 8, [.nilF]⟩), (55, ⟨.arr 32 5, 32, 32, List.replicate 32 (.int .u8 0)⟩), (56, ⟨.oth, 1, 8, [.nilF]⟩), (57, ⟨.oth, 1, 8, [.nilF]⟩), (58, ⟨.oth, 1, 8, [.nilF]⟩), (59, ⟨.oth, 1, 8, [.nilF]⟩), (61, ⟨.oth, 1, 8, [.nilF]⟩), (62, ⟨.oth, 1, 8, [.nilF]⟩), (63, ⟨.oth, 1, 8, [.nilF]⟩), (64, ⟨.int .u64, 1, 8, [.int .u64 0]⟩), (65, ⟨.arr 64 5, 64, 64, List.replicate 64 (.int .u8 0)⟩), (66, ⟨.oth, 1, 8, [.nilF]⟩), (67, ⟨.int .u32, 1, 4, [.int .u32 0]⟩), (68, ⟨.arr 8 67, 8, 32, [.int .u32 0, .int .u32 0, .int .u32 0, .int .u32 0, .int .u32 0, .int .u32 0, .int .u32 0, .int .u32 0]⟩), (69, ⟨.str, 74, 112, [.int .u32 0, .int .u32 0, .int .u32 0, .int .u32 0, .int .u32 0, .int .u32 0, .int .u32 0, .int .u32 0, .int .u8 0, .int .u8 0, .int .u8 0, .int .u8 0, .int .u8 0, .int .u8 0, .int .u8 0, .int .u8 0, .int .u8 0, .int .u8 0, .int .u8 0, .int .u8 0, .int .u8 0, .int .u8 0, .int .u8 0, .int .u8 0, .int .u8 0, .int .u8 0, .int .u8 0, .int .u8 0, .int .u8 0, .int .u8 0, .int .u8 0, .int .u8 0, .int .u8 0, .int .u8 0, .int .u8 0, .int .u8 0, .int .u8 0, .int .u8 0, .int .u8 0, .int .u8 0, .int .u8 0, .int .u8 0, .int .u8 0, .int .u8 0, .int .u8 0, .int .u8 0, .int .u8 0, .int .u8 0, .int .u8 0, .int .u8 0, .int .u8 0, .int .u8 0, .int .u8 0, .int .u8 0, .int .u8 0, .int .u8 0, .int .u8 0, .int .u8 0, .int .u8 0, .int .u8 0, .int .u8 0, .int .u8 0, .int .u8 0, .int .u8 0, .int .u8 0, .int .u8 0, .int .u8 0, .int .u8 0, .int .u8 0, .int .u8 0, .int .u8 0, .int .u8 0, .int .i64 0, .int .i64 0]⟩), (70, ⟨.str, 74, 112, [.int .u32 0, .int .u32 0, .int .u32 0, .int .u32 0, .int .u32 0, .int .u32 0, .int .u32 0, .int .u32 0, .int .u8 0, .int .u8 0, .int .u8 0, .int .u8 0, .int .u8 0, .int .u8 0, .int .u8 0, .int .u8 0, .int .u8 0, .int .u8 0, .int .u8 0, .int .u8 0, .int .u8 0, .int .u8 0, .int .u8 0, .int .u8 0, .int .u8 0, .int .u8 0, .int .u8 0, .int .u8 0, .int .u8 0, .int .u8 0, .int .u8 0, .int .u8 0, .int .u8 0, .int .u8 0, .int .u8 0, .int .u8 0, .int .u8 0, .int .u8 0, .int .u8 0, .int .u8 0, .int .u8 0, .int .u8 0, .int .u8 0, .int .u8 0, .int .u8 0, .int .u8 0, .int .u8 0, .int .u8 0, .int .u8 0, .int .u8 0, .int .u8 0, .int .u8 0, .int .u8 0, .int .u8 0, .int .u8 0, .int .u8 0, .int .u8 0, .int .u8 0, .int .u8 0, .int .u8 0, .int .u8 0, .int .u8 0, .int .u8 0, .int .u8 0, .int .u8 0, .int .u8 0, .int .u8 0, .int .u8 0, .int .u8 0, .int .u8 0, .int .u8 0, .int .u8 0, .int .i64 0, .int .i64 0]⟩), (71, ⟨.oth, 1, 8, [.nilF]⟩), (72, ⟨.oth, 1, 8, [.nilF]⟩), (73, ⟨.int .u64, 1, 8, [.int .u64 0]⟩), (74, ⟨.oth, 1, 8, [.nilF]⟩), (75, ⟨.arr 64 67, 64, 256, List.replicate 64 (.int .u32 0)⟩), (76, ⟨.oth, 1, 8, [.nilF]⟩), (77, ⟨.oth, 1, 8, [.nilF]⟩), (80, ⟨.arr 0 16, 0, 0, []⟩), (81, ⟨.str, 0, 0, []⟩), (82, ⟨.str, 0, 0, []⟩), (83, ⟨.oth, 1, 8, [.nilF]⟩), (84, ⟨.int .u8, 1, 1, [.int .u8 0]⟩), (85, ⟨.int .u8, 1, 1, [.int .u8 0]⟩), (86, ⟨.oth, 1, 8, [.nilF]⟩), (88, ⟨.int .i32, 1, 4, [.int .i32 0]⟩), (89, ⟨.int .i32, 1, 4, [.int .i32 0]⟩)]
def lyT : List (Nat × List (Nat × Nat)) := [(7, [(0, 1), (1, 1), (2, 1), (3, 1)]), (8, [(0, 1), (1, 1), (2, 1), (3, 1)]), (13, [(0, 1), (1, 1)]), (14, [(0, 1), (1, 1)]), (28, [(0, 1), (1, 1), (2, 1), (3, 1)]), (29, [(0, 1), (1, 1), (2, 1), (3, 1)]), (39, [(0, 1), (1, 1), (2, 1)]), (40, [(0, 1), (1, 1), (2, 1)]), (69, [(0, 8), (8, 64), (72, 1), (73, 1)]), (70, [(0, 8), (8, 64), (72, 1), (73, 1)]), (81, [(0, 0)]), (82, [(0, 0)])]
theorem look_mem {α : Type} : ∀ {l : List (Nat × α)} {i : Nat} {x : α}, look l i = some x → (i, x) ∈ l
  | [], i, x, h => by simp [look] at h
  | (k, y) :: l, i, x, h => by
    rw [look_cons] at h
    by_cases c : k = i
    · rw [if_pos c] at h
      obtain rfl := Option.some.inj h
      subst c
      simp
    · rw [if_neg c] at h
      exact List.mem_cons_of_mem _ (look_mem h)
theorem tyOk : ∀ p ∈ tyT, tiOf Tryd.prog p.1 = some p.2 := by
  simp only [tyT, List.forall_mem_cons]
  exact ⟨ty1, ty2, ty3, ty4, ty5, ty6, ty7, ty8, ty9, ty10, ty11, ty12, ty13, ty14, ty21, ty22, ty23, ty24, ty25, ty27, ty28, ty29, ty30, ty31, ty32, ty34, ty36, ty37, ty38, ty39, ty40, ty41, ty42, ty43, ty44, ty45, ty46, ty47, ty48, ty49, ty50, ty51, ty52, ty53, ty54, ty55, ty56, ty57, ty58, ty59, ty61, ty62, ty63, ty64, ty65, ty66, ty67, ty68, ty69, ty70, ty71, ty72, ty73, ty74, ty75, ty76, ty77, ty80, ty81, ty82, ty83, ty84, ty85, ty86, ty88, ty89, fun p h => by simp at h⟩
theorem lyOk : ∀ p ∈ lyT, laysOf Tryd.prog p.1 = some p.2 := by
  simp only [lyT, List.forall_mem_cons]
  exact ⟨ly7, ly8, ly13, ly14, ly28, ly29, ly39, ly40, ly69, ly70, ly81, ly82, fun p h => by simp at h⟩
/-- The environment of this program, with what its package variables hold. -/
def tyL (t : Nat) : Option TI := look tyT t
def lyL (t : Nat) : Option (List (Nat × Nat)) := look lyT t
/-- A walk to which nothing is lent; to which those boxes are lent. -/
def EnL (P : Program) (g : Nat → Option (List PV)) (ln : List Nat) : Env := ⟨P, ⟨g, ln⟩, tyL, lyL⟩
abbrev En (P : Program) (g : Nat → Option (List PV)) : Env := EnL P g []
theorem EnLOk (g : Nat → Option (List PV)) (ln : List Nat) : (EnL Tryd.prog g ln).Ok := ⟨fun t i h => tyOk (t, i) (look_mem h), fun t i h => lyOk (t, i) (look_mem h)⟩
theorem EnOk (g : Nat → Option (List PV)) : (En Tryd.prog g).Ok := EnLOk g []
theorem T1 {P : Program} {g : Nat → Option (List PV)} {ln : List Nat} : (EnL P g ln).T 1 = some ⟨.oth, 1, 8, [.nilF]⟩ := rfl
theorem T2 {P : Program} {g : Nat → Option (List PV)} {ln : List Nat} : (EnL P g ln).T 2 = some ⟨.int .i64, 1, 8, [.int .i64 0]⟩ := rfl
theorem T3 {P : Program} {g : Nat → Option (List PV)} {ln : List Nat} : (EnL P g ln).T 3 = some ⟨.int .i64, 1, 8, [.int .i64 0]⟩ := rfl
theorem T4 {P : Program} {g : Nat → Option (List PV)} {ln : List Nat} : (EnL P g ln).T 4 = some ⟨.bool, 1, 1, [.bool false]⟩ := rfl
theorem T5 {P : Program} {g : Nat → Option (List PV)} {ln : List Nat} : (EnL P g ln).T 5 = some ⟨.int .u8, 1, 1, [.int .u8 0]⟩ := rfl
theorem T6 {P : Program} {g : Nat → Option (List PV)} {ln : List Nat} : (EnL P g ln).T 6 = some ⟨.int .u8, 1, 1, [.int .u8 0]⟩ := rfl
theorem T7 {P : Program} {g : Nat → Option (List PV)} {ln : List Nat} : (EnL P g ln).T 7 = some ⟨.str, 4, 24, [.int .i64 0, .int .i64 0, .bool false, .int .u8 0]⟩ := rfl
theorem T8 {P : Program} {g : Nat → Option (List PV)} {ln : List Nat} : (EnL P g ln).T 8 = some ⟨.str, 4, 24, [.int .i64 0, .int .i64 0, .bool false, .int .u8 0]⟩ := rfl
theorem T9 {P : Program} {g : Nat → Option (List PV)} {ln : List Nat} : (EnL P g ln).T 9 = some ⟨.strg, 1, 16, [.str ⟨#[]⟩]⟩ := rfl
theorem T10 {P : Program} {g : Nat → Option (List PV)} {ln : List Nat} : (EnL P g ln).T 10 = some ⟨.strg, 1, 16, [.str ⟨#[]⟩]⟩ := rfl
theorem T11 {P : Program} {g : Nat → Option (List PV)} {ln : List Nat} : (EnL P g ln).T 11 = some ⟨.strg, 1, 16, [.str ⟨#[]⟩]⟩ := rfl
theorem T12 {P : Program} {g : Nat → Option (List PV)} {ln : List Nat} : (EnL P g ln).T 12 = some ⟨.int .u64, 1, 8, [.int .u64 0]⟩ := rfl
theorem T13 {P : Program} {g : Nat → Option (List PV)} {ln : List Nat} : (EnL P g ln).T 13 = some ⟨.str, 2, 24, [.str ⟨#[]⟩, .int .u64 0]⟩ := rfl
theorem T14 {P : Program} {g : Nat → Option (List PV)} {ln : List Nat} : (EnL P g ln).T 14 = some ⟨.str, 2, 24, [.str ⟨#[]⟩, .int .u64 0]⟩ := rfl
theorem T21 {P : Program} {g : Nat → Option (List PV)} {ln : List Nat} : (EnL P g ln).T 21 = some ⟨.int .i32, 1, 4, [.int .i32 0]⟩ := rfl
theorem T22 {P : Program} {g : Nat → Option (List PV)} {ln : List Nat} : (EnL P g ln).T 22 = some ⟨.slc 29, 1, 24, [.nil]⟩ := rfl
theorem T23 {P : Program} {g : Nat → Option (List PV)} {ln : List Nat} : (EnL P g ln).T 23 = some ⟨.oth, 1, 8, [.nilF]⟩ := rfl
theorem T24 {P : Program} {g : Nat → Option (List PV)} {ln : List Nat} : (EnL P g ln).T 24 = some ⟨.slc 31, 1, 24, [.nil]⟩ := rfl
theorem T25 {P : Program} {g : Nat → Option (List PV)} {ln : List Nat} : (EnL P g ln).T 25 = some ⟨.slc 40, 1, 24, [.nil]⟩ := rfl
theorem T27 {P : Program} {g : Nat → Option (List PV)} {ln : List Nat} : (EnL P g ln).T 27 = some ⟨.oth, 1, 8, [.nilF]⟩ := rfl
theorem T28 {P : Program} {g : Nat → Option (List PV)} {ln : List Nat} : (EnL P g ln).T 28 = some ⟨.str, 4, 40, [.int .i64 0, .int .i64 0, .int .i64 0, .str ⟨#[]⟩]⟩ := rfl
theorem T29 {P : Program} {g : Nat → Option (List PV)} {ln : List Nat} : (EnL P g ln).T 29 = some ⟨.str, 4, 40, [.int .i64 0, .int .i64 0, .int .i64 0, .str ⟨#[]⟩]⟩ := rfl
theorem T30 {P : Program} {g : Nat → Option (List PV)} {ln : List Nat} : (EnL P g ln).T 30 = some ⟨.oth, 1, 8, [.nilF]⟩ := rfl
theorem T31 {P : Program} {g : Nat → Option (List PV)} {ln : List Nat} : (EnL P g ln).T 31 = some ⟨.slc 5, 1, 24, [.nil]⟩ := rfl
theorem T32 {P : Program} {g : Nat → Option (List PV)} {ln : List Nat} : (EnL P g ln).T 32 = some ⟨.int .i64, 1, 8, [.int .i64 0]⟩ := rfl
theorem T34 {P : Program} {g : Nat → Option (List PV)} {ln : List Nat} : (EnL P g ln).T 34 = some ⟨.oth, 1, 8, [.nilF]⟩ := rfl
theorem T36 {P : Program} {g : Nat → Option (List PV)} {ln : List Nat} : (EnL P g ln).T 36 = some ⟨.oth, 1, 8, [.nilF]⟩ := rfl
theorem T37 {P : Program} {g : Nat → Option (List PV)} {ln : List Nat} : (EnL P g ln).T 37 = some ⟨.oth, 1, 8, [.nilF]⟩ := rfl
theorem T38 {P : Program} {g : Nat → Option (List PV)} {ln : List Nat} : (EnL P g ln).T 38 = some ⟨.oth, 1, 8, [.nilF]⟩ := rfl
theorem T39 {P : Program} {g : Nat → Option (List PV)} {ln : List Nat} : (EnL P g ln).T 39 = some ⟨.str, 3, 56, [.bool false, .nil, .nil]⟩ := rfl
theorem T40 {P : Program} {g : Nat → Option (List PV)} {ln : List Nat} : (EnL P g ln).T 40 = some ⟨.str, 3, 56, [.bool false, .nil, .nil]⟩ := rfl
theorem T41 {P : Program} {g : Nat → Option (List PV)} {ln : List Nat} : (EnL P g ln).T 41 = some ⟨.oth, 1, 8, [.nilF]⟩ := rfl
theorem T42 {P : Program} {g : Nat → Option (List PV)} {ln : List Nat} : (EnL P g ln).T 42 = some ⟨.oth, 1, 8, [.nilF]⟩ := rfl
theorem T43 {P : Program} {g : Nat → Option (List PV)} {ln : List Nat} : (EnL P g ln).T 43 = some ⟨.oth, 1, 8, [.nilF]⟩ := rfl
theorem T44 {P : Program} {g : Nat → Option (List PV)} {ln : List Nat} : (EnL P g ln).T 44 = some ⟨.slc 24, 1, 24, [.nil]⟩ := rfl
theorem T45 {P : Program} {g : Nat → Option (List PV)} {ln : List Nat} : (EnL P g ln).T 45 = some ⟨.oth, 1, 8, [.nilF]⟩ := rfl
theorem T46 {P : Program} {g : Nat → Option (List PV)} {ln : List Nat} : (EnL P g ln).T 46 = some ⟨.oth, 1, 8, [.nilF]⟩ := rfl
theorem T47 {P : Program} {g : Nat → Option (List PV)} {ln : List Nat} : (EnL P g ln).T 47 = some ⟨.oth, 1, 8, [.nilF]⟩ := rfl
theorem T48 {P : Program} {g : Nat → Option (List PV)} {ln : List Nat} : (EnL P g ln).T 48 = some ⟨.oth, 1, 8, [.nilF]⟩ := rfl
theorem T49 {P : Program} {g : Nat → Option (List PV)} {ln : List Nat} : (EnL P g ln).T 49 = some ⟨.oth, 1, 8, [.nilF]⟩ := rfl
theorem T50 {P : Program} {g : Nat → Option (List PV)} {ln : List Nat} : (EnL P g ln).T 50 = some ⟨.oth, 1, 8, [.nilF]⟩ := rfl
theorem T51 {P : Program} {g : Nat → Option (List PV)} {ln : List Nat} : (EnL P g ln).T 51 = some ⟨.oth, 1, 8, [.nilF]⟩ := rfl
theorem T52 {P : Program} {g : Nat → Option (List PV)} {ln : List Nat} : (EnL P g ln).T 52 = some ⟨.oth, 1, 8, [.nilF]⟩ := rfl
theorem T53 {P : Program} {g : Nat → Option (List PV)} {ln : List Nat} : (EnL P g ln).T 53 = some ⟨.oth, 1, 8, [.nilF]⟩ := rfl
theorem T54 {P : Program} {g : Nat → Option (List PV)} {ln : List Nat} : (EnL P g ln).T 54 = some ⟨.oth, 1, 8, [.nilF]⟩ := rfl
theorem T55 {P : Program} {g : Nat → Option (List PV)} {ln : List Nat} : (EnL P g ln).T 55 = some ⟨.arr 32 5, 32, 32, List.replicate 32 (.int .u8 0)⟩ := rfl
theorem T56 {P : Program} {g : Nat → Option (List PV)} {ln : List Nat} : (EnL P g ln).T 56 = some ⟨.oth, 1, 8, [.nilF]⟩ := rfl
theorem T57 {P : Program} {g : Nat → Option (List PV)} {ln : List Nat} : (EnL P g ln).T 57 = some ⟨.oth, 1, 8, [.nilF]⟩ := rfl
theorem T58 {P : Program} {g : Nat → Option (List PV)} {ln : List Nat} : (EnL P g ln).T 58 = some ⟨.oth, 1, 8, [.nilF]⟩ := rfl
theorem T59 {P : Program} {g : Nat → Option (List PV)} {ln : List Nat} : (EnL P g ln).T 59 = some ⟨.oth, 1, 8, [.nilF]⟩ := rfl
theorem T61 {P : Program} {g : Nat → Option (List PV)} {ln : List Nat} : (EnL P g ln).T 61 = some ⟨.oth, 1, 8, [.nilF]⟩ := rfl
theorem T62 {P : Program} {g : Nat → Option (List PV)} {ln : List Nat} : (EnL P g ln).T 62 = some ⟨.oth, 1, 8, [.nilF]⟩ := rfl
theorem T63 {P : Program} {g : Nat → Option (List PV)} {ln : List Nat} : (EnL P g ln).T 63 = some ⟨.oth, 1, 8, [.nilF]⟩ := rfl
theorem T64 {P : Program} {g : Nat → Option (List PV)} {ln : List Nat} : (EnL P g ln).T 64 = some ⟨.int .u64, 1, 8, [.int .u64 0]⟩ := rfl
theorem T65 {P : Program} {g : Nat → Option (List PV)} {ln : List Nat} : (EnL P g ln).T 65 = some ⟨.arr 64 5, 64, 64, List.replicate 64 (.int .u8 0)⟩ := rfl
theorem T66 {P : Program} {g : Nat → Option (List PV)} {ln : List Nat} : (EnL P g ln).T 66 = some ⟨.oth, 1, 8, [.nilF]⟩ := rfl
theorem T67 {P : Program} {g : Nat → Option (List PV)} {ln : List Nat} : (EnL P g ln).T 67 = some ⟨.int .u32, 1, 4, [.int .u32 0]⟩ := rfl
theorem T68 {P : Program} {g : Nat → Option (List PV)} {ln : List Nat} : (EnL P g ln).T 68 = some ⟨.arr 8 67, 8, 32, [.int .u32 0, .int .u32 0, .int .u32 0, .int .u32 0, .int .u32 0, .int .u32 0, .int .u32 0, .int .u32 0]⟩ := rfl
theorem T69 {P : Program} {g : Nat → Option (List PV)} {ln : List Nat} : (EnL P g ln).T 69 = some ⟨.str, 74, 112, [.int .u32 0, .int .u32 0, .int .u32 0, .int .u32 0, .int .u32 0, .int .u32 0, .int .u32 0, .int .u32 0, .int .u8 0, .int .u8 0, .int .u8 0, .int .u8 0, .int .u8 0, .int .u8 0, .int .u8 0, .int .u8 0, .int .u8 0, .int .u8 0, .int .u8 0, .int .u8 0, .int .u8 0, .int .u8 0, .int .u8 0, .int .u8 0, .int .u8 0, .int .u8 0, .int .u8 0, .int .u8 0, .int .u8 0, .int .u8 0, .int .u8 0, .int .u8 0, .int .u8 0, .int .u8 0, .int .u8 0, .int .u8 0, .int .u8 0, .int .u8 0, .int .u8 0, .int .u8 0, .int .u8 0, .int .u8 0, .int .u8 0, .int .u8 0, .int .u8 0, .int .u8 0, .int .u8 0, .int .u8 0, .int .u8 0, .int .u8 0, .int .u8 0, .int .u8 0, .int .u8 0, .int .u8 0, .int .u8 0, .int .u8 0, .int .u8 0, .int .u8 0, .int .u8 0, .int .u8 0, .int .u8 0, .int .u8 0, .int .u8 0, .int .u8 0, .int .u8 0, .int .u8 0, .int .u8 0, .int .u8 0, .int .u8 0, .int .u8 0, .int .u8 0, .int .u8 0, .int .i64 0, .int .i64 0]⟩ := rfl
theorem T70 {P : Program} {g : Nat → Option (List PV)} {ln : List Nat} : (EnL P g ln).T 70 = some ⟨.str, 74, 112, [.int .u32 0, .int .u32 0, .int .u32 0, .int .u32 0, .int .u32 0, .int .u32 0, .int .u32 0, .int .u32 0, .int .u8 0, .int .u8 0, .int .u8 0, .int .u8 0, .int .u8 0, .int .u8 0, .int .u8 0, .int .u8 0, .int .u8 0, .int .u8 0, .int .u8 0, .int .u8 0, .int .u8 0, .int .u8 0, .int .u8 0, .int .u8 0, .int .u8 0, .int .u8 0, .int .u8 0, .int .u8 0, .int .u8 0, .int .u8 0, .int .u8 0, .int .u8 0, .int .u8 0, .int .u8 0, .int .u8 0, .int .u8 0, .int .u8 0, .int .u8 0, .int .u8 0, .int .u8 0, .int .u8 0, .int .u8 0, .int .u8 0, .int .u8 0, .int .u8 0, .int .u8 0, .int .u8 0, .int .u8 0, .int .u8 0, .int .u8 0, .int .u8 0, .int .u8 0, .int .u8 0, .int .u8 0, .int .u8 0, .int .u8 0, .int .u8 0, .int .u8 0, .int .u8 0, .int .u8 0, .int .u8 0, .int .u8 0, .int .u8 0, .int .u8 0, .int .u8 0, .int .u8 0, .int .u8 0, .int .u8 0, .int .u8 0, .int .u8 0, .int .u8 0, .int .u8 0, .int .i64 0, .int .i64 0]⟩ := rfl
theorem T71 {P : Program} {g : Nat → Option (List PV)} {ln : List Nat} : (EnL P g ln).T 71 = some ⟨.oth, 1, 8, [.nilF]⟩ := rfl
theorem T72 {P : Program} {g : Nat → Option (List PV)} {ln : List Nat} : (EnL P g ln).T 72 = some ⟨.oth, 1, 8, [.nilF]⟩ := rfl
theorem T73 {P : Program} {g : Nat → Option (List PV)} {ln : List Nat} : (EnL P g ln).T 73 = some ⟨.int .u64, 1, 8, [.int .u64 0]⟩ := rfl
theorem T74 {P : Program} {g : Nat → Option (List PV)} {ln : List Nat} : (EnL P g ln).T 74 = some ⟨.oth, 1, 8, [.nilF]⟩ := rfl
theorem T75 {P : Program} {g : Nat → Option (List PV)} {ln : List Nat} : (EnL P g ln).T 75 = some ⟨.arr 64 67, 64, 256, List.replicate 64 (.int .u32 0)⟩ := rfl
theorem T76 {P : Program} {g : Nat → Option (List PV)} {ln : List Nat} : (EnL P g ln).T 76 = some ⟨.oth, 1, 8, [.nilF]⟩ := rfl
theorem T77 {P : Program} {g : Nat → Option (List PV)} {ln : List Nat} : (EnL P g ln).T 77 = some ⟨.oth, 1, 8, [.nilF]⟩ := rfl
theorem T80 {P : Program} {g : Nat → Option (List PV)} {ln : List Nat} : (EnL P g ln).T 80 = some ⟨.arr 0 16, 0, 0, []⟩ := rfl
theorem T81 {P : Program} {g : Nat → Option (List PV)} {ln : List Nat} : (EnL P g ln).T 81 = some ⟨.str, 0, 0, []⟩ := rfl
theorem T82 {P : Program} {g : Nat → Option (List PV)} {ln : List Nat} : (EnL P g ln).T 82 = some ⟨.str, 0, 0, []⟩ := rfl
theorem T83 {P : Program} {g : Nat → Option (List PV)} {ln : List Nat} : (EnL P g ln).T 83 = some ⟨.oth, 1, 8, [.nilF]⟩ := rfl
theorem T84 {P : Program} {g : Nat → Option (List PV)} {ln : List Nat} : (EnL P g ln).T 84 = some ⟨.int .u8, 1, 1, [.int .u8 0]⟩ := rfl
theorem T85 {P : Program} {g : Nat → Option (List PV)} {ln : List Nat} : (EnL P g ln).T 85 = some ⟨.int .u8, 1, 1, [.int .u8 0]⟩ := rfl
theorem T86 {P : Program} {g : Nat → Option (List PV)} {ln : List Nat} : (EnL P g ln).T 86 = some ⟨.oth, 1, 8, [.nilF]⟩ := rfl
theorem T88 {P : Program} {g : Nat → Option (List PV)} {ln : List Nat} : (EnL P g ln).T 88 = some ⟨.int .i32, 1, 4, [.int .i32 0]⟩ := rfl
theorem T89 {P : Program} {g : Nat → Option (List PV)} {ln : List Nat} : (EnL P g ln).T 89 = some ⟨.int .i32, 1, 4, [.int .i32 0]⟩ := rfl
theorem L7 {P : Program} {g : Nat → Option (List PV)} {ln : List Nat} : (EnL P g ln).L 7 = some [(0, 1), (1, 1), (2, 1), (3, 1)] := rfl
theorem L8 {P : Program} {g : Nat → Option (List PV)} {ln : List Nat} : (EnL P g ln).L 8 = some [(0, 1), (1, 1), (2, 1), (3, 1)] := rfl
theorem L13 {P : Program} {g : Nat → Option (List PV)} {ln : List Nat} : (EnL P g ln).L 13 = some [(0, 1), (1, 1)] := rfl
theorem L14 {P : Program} {g : Nat → Option (List PV)} {ln : List Nat} : (EnL P g ln).L 14 = some [(0, 1), (1, 1)] := rfl
theorem L28 {P : Program} {g : Nat → Option (List PV)} {ln : List Nat} : (EnL P g ln).L 28 = some [(0, 1), (1, 1), (2, 1), (3, 1)] := rfl
theorem L29 {P : Program} {g : Nat → Option (List PV)} {ln : List Nat} : (EnL P g ln).L 29 = some [(0, 1), (1, 1), (2, 1), (3, 1)] := rfl
theorem L39 {P : Program} {g : Nat → Option (List PV)} {ln : List Nat} : (EnL P g ln).L 39 = some [(0, 1), (1, 1), (2, 1)] := rfl
theorem L40 {P : Program} {g : Nat → Option (List PV)} {ln : List Nat} : (EnL P g ln).L 40 = some [(0, 1), (1, 1), (2, 1)] := rfl
theorem L69 {P : Program} {g : Nat → Option (List PV)} {ln : List Nat} : (EnL P g ln).L 69 = some [(0, 8), (8, 64), (72, 1), (73, 1)] := rfl
theorem L70 {P : Program} {g : Nat → Option (List PV)} {ln : List Nat} : (EnL P g ln).L 70 = some [(0, 8), (8, 64), (72, 1), (73, 1)] := rfl
theorem L81 {P : Program} {g : Nat → Option (List PV)} {ln : List Nat} : (EnL P g ln).L 81 = some [(0, 0)] := rfl
theorem L82 {P : Program} {g : Nat → Option (List PV)} {ln : List Nat} : (EnL P g ln).L 82 = some [(0, 0)] := rfl
theorem mixed : Tryd.prog.follows .mixedOrders = true := by kernel_rfl
end Go.Proofs.YthpenjbpaegpgaaDoor.Vm
