/- The types of this program as the value machine reads them, each checked by the kernel. Conditions: none. -/
import Derived.Test.YtalcpfpjkfpmbaaDoorProg
import Derived.Test.YtalcpfpjkfpmbaaDoorVm4
namespace Go.Proofs.YtalcpfpjkfpmbaaDoor.Vm
open Go Go.RowKit
set_option maxRecDepth 100000
theorem ty1 : tiOf Tryd.prog 1 = some ⟨.oth, 1, 8, [.nilF]⟩ := by kernel_rfl
theorem ty2 : tiOf Tryd.prog 2 = some ⟨.int .i64, 1, 8, [.int .i64 0]⟩ := by kernel_rfl
theorem ty3 : tiOf Tryd.prog 3 = some ⟨.int .i64, 1, 8, [.int .i64 0]⟩ := by kernel_rfl
theorem ty4 : tiOf Tryd.prog 4 = some ⟨.bool, 1, 1, [.bool false]⟩ := by kernel_rfl
theorem ty5 : tiOf Tryd.prog 5 = some ⟨.int .u8, 1, 1, [.int .u8 0]⟩ := by kernel_rfl
theorem ty6 : tiOf Tryd.prog 6 = some ⟨.int .u8, 1, 1, [.int .u8 0]⟩ := by kernel_rfl
theorem ty7 : tiOf Tryd.prog 7 = some ⟨.str, 4, 24, [.int .i64 0, .int .i64 0, .bool false, .int .u8 0]⟩ := by kernel_rfl
theorem ty8 : tiOf Tryd.prog 8 = some ⟨.str, 4, 24, [.int .i64 0, .int .i64 0, .bool false, .int .u8 0]⟩ := by kernel_rfl
theorem ty9 : tiOf Tryd.prog 9 = some ⟨.strg, 1, 16, [.str ⟨#[]⟩]⟩ := by kernel_rfl
theorem ty10 : tiOf Tryd.prog 10 = some ⟨.strg, 1, 16, [.str ⟨#[]⟩]⟩ := by kernel_rfl
theorem ty11 : tiOf Tryd.prog 11 = some ⟨.strg, 1, 16, [.str ⟨#[]⟩]⟩ := by kernel_rfl
theorem ty12 : tiOf Tryd.prog 12 = some ⟨.int .u64, 1, 8, [.int .u64 0]⟩ := by kernel_rfl
theorem ty13 : tiOf Tryd.prog 13 = some ⟨.str, 2, 24, [.str ⟨#[]⟩, .int .u64 0]⟩ := by kernel_rfl
theorem ty14 : tiOf Tryd.prog 14 = some ⟨.str, 2, 24, [.str ⟨#[]⟩, .int .u64 0]⟩ := by kernel_rfl
theorem ty21 : tiOf Tryd.prog 21 = some ⟨.int .i32, 1, 4, [.int .i32 0]⟩ := by kernel_rfl
theorem ty22 : tiOf Tryd.prog 22 = some ⟨.str, 2, 32, [.str ⟨#[]⟩, .str ⟨#[]⟩]⟩ := by kernel_rfl
theorem ty23 : tiOf Tryd.prog 23 = some ⟨.slc 22, 1, 24, [.nil]⟩ := by kernel_rfl
theorem ty24 : tiOf Tryd.prog 24 = some ⟨.oth, 1, 8, [.nilF]⟩ := by kernel_rfl
theorem ty25 : tiOf Tryd.prog 25 = some ⟨.arr 32 5, 32, 32, List.replicate 32 (.int .u8 0)⟩ := by kernel_rfl
theorem ty26 : tiOf Tryd.prog 26 = some ⟨.oth, 1, 8, [.nilF]⟩ := by kernel_rfl
theorem ty27 : tiOf Tryd.prog 27 = some ⟨.slc 5, 1, 24, [.nil]⟩ := by kernel_rfl
theorem ty28 : tiOf Tryd.prog 28 = some ⟨.oth, 1, 8, [.nilF]⟩ := by kernel_rfl
theorem ty29 : tiOf Tryd.prog 29 = some ⟨.int .u32, 1, 4, [.int .u32 0]⟩ := by kernel_rfl
theorem ty30 : tiOf Tryd.prog 30 = some ⟨.oth, 1, 8, [.nilF]⟩ := by kernel_rfl
theorem ty31 : tiOf Tryd.prog 31 = some ⟨.oth, 1, 8, [.nilF]⟩ := by kernel_rfl
theorem ty32 : tiOf Tryd.prog 32 = some ⟨.slc 57, 1, 24, [.nil]⟩ := by kernel_rfl
theorem ty33 : tiOf Tryd.prog 33 = some ⟨.int .i64, 1, 8, [.int .i64 0]⟩ := by kernel_rfl
theorem ty34 : tiOf Tryd.prog 34 = some ⟨.slc 37, 1, 24, [.nil]⟩ := by kernel_rfl
theorem ty35 : tiOf Tryd.prog 35 = some ⟨.str, 3, 40, [.int .i64 0, .int .i64 0, .nil]⟩ := by kernel_rfl
theorem ty36 : tiOf Tryd.prog 36 = some ⟨.str, 3, 40, [.int .i64 0, .int .i64 0, .nil]⟩ := by kernel_rfl
theorem ty37 : tiOf Tryd.prog 37 = some ⟨.slc 60, 1, 24, [.nil]⟩ := by kernel_rfl
theorem ty38 : tiOf Tryd.prog 38 = some ⟨.oth, 1, 8, [.nilF]⟩ := by kernel_rfl
theorem ty40 : tiOf Tryd.prog 40 = some ⟨.oth, 1, 8, [.nilF]⟩ := by kernel_rfl
theorem ty42 : tiOf Tryd.prog 42 = some ⟨.oth, 1, 8, [.nilF]⟩ := by kernel_rfl
theorem ty43 : tiOf Tryd.prog 43 = some ⟨.oth, 1, 8, [.nilF]⟩ := by kernel_rfl
theorem ty44 : tiOf Tryd.prog 44 = some ⟨.oth, 1, 8, [.nilF]⟩ := by kernel_rfl
theorem ty45 : tiOf Tryd.prog 45 = some ⟨.oth, 1, 8, [.nilF]⟩ := by kernel_rfl
theorem ty46 : tiOf Tryd.prog 46 = some ⟨.oth, 1, 8, [.nilF]⟩ := by kernel_rfl
theorem ty47 : tiOf Tryd.prog 47 = some ⟨.oth, 1, 8, [.nilF]⟩ := by kernel_rfl
theorem ty48 : tiOf Tryd.prog 48 = some ⟨.arr 8 29, 8, 32, [.int .u32 0, .int .u32 0, .int .u32 0, .int .u32 0, .int .u32 0, .int .u32 0, .int .u32 0, .int .u32 0]⟩ := by kernel_rfl
theorem ty49 : tiOf Tryd.prog 49 = some ⟨.arr 64 5, 64, 64, List.replicate 64 (.int .u8 0)⟩ := by kernel_rfl
theorem ty50 : tiOf Tryd.prog 50 = some ⟨.str, 74, 112, [.int .u32 0, .int .u32 0, .int .u32 0, .int .u32 0, .int .u32 0, .int .u32 0, .int .u32 0, .int .u32 0, .int .u8 0, .int .u8 0, .int .u8 0, .int .u8 0, .int .u8 0, .int .u8 0, .int .u8 0, .int .u8 0, .int .u8 0, .int .u8 0, .int .u8 0, .int .u8 0, .int .u8 0, .int .u8 0, .int .u8 0, .int .u8 0, .int .u8 0, .int .u8 0, .int .u8 0, .int .u8 0, .int .u8 0, .int .u8 0, .int .u8 0, .int .u8 0, .int .u8 0, .int .u8 0, .int .u8 0, .int .u8 0, .int .u8 0, .int .u8 0, .int .u8 0, .int .u8 0, .int .u8 0, .int .u8 0, .int .u8 0, .int .u8 0, .int .u8 0, .int .u8 0, .int .u8 0, .int .u8 0, .int .u8 0, .int .u8 0, .int .u8 0, .int .u8 0, .int .u8 0, .int .u8 0, .int .u8 0, .int .u8 0, .int .u8 0, .int .u8 0, .int .u8 0, .int .u8 0, .int .u8 0, .int .u8 0, .int .u8 0, .int .u8 0, .int .u8 0, .int .u8 0, .int .u8 0, .int .u8 0, .int .u8 0, .int .u8 0, .int .u8 0, .int .u8 0, .int .i64 0, .int .i64 0]⟩ := by kernel_rfl
theorem ty51 : tiOf Tryd.prog 51 = some ⟨.str, 74, 112, [.int .u32 0, .int .u32 0, .int .u32 0, .int .u32 0, .int .u32 0, .int .u32 0, .int .u32 0, .int .u32 0, .int .u8 0, .int .u8 0, .int .u8 0, .int .u8 0, .int .u8 0, .int .u8 0, .int .u8 0, .int .u8 0, .int .u8 0, .int .u8 0, .int .u8 0, .int .u8 0, .int .u8 0, .int .u8 0, .int .u8 0, .int .u8 0, .int .u8 0, .int .u8 0, .int .u8 0, .int .u8 0, .int .u8 0, .int .u8 0, .int .u8 0, .int .u8 0, .int .u8 0, .int .u8 0, .int .u8 0, .int .u8 0, .int .u8 0, .int .u8 0, .int .u8 0, .int .u8 0, .int .u8 0, .int .u8 0, .int .u8 0, .int .u8 0, .int .u8 0, .int .u8 0, .int .u8 0, .int .u8 0, .int .u8 0, .int .u8 0, .int .u8 0, .int .u8 0, .int .u8 0, .int .u8 0, .int .u8 0, .int .u8 0, .int .u8 0, .int .u8 0, .int .u8 0, .int .u8 0, .int .u8 0, .int .u8 0, .int .u8 0, .int .u8 0, .int .u8 0, .int .u8 0, .int .u8 0, .int .u8 0, .int .u8 0, .int .u8 0, .int .u8 0, .int .u8 0, .int .i64 0, .int .i64 0]⟩ := by kernel_rfl
theorem ty52 : tiOf Tryd.prog 52 = some ⟨.oth, 1, 8, [.nilF]⟩ := by kernel_rfl
theorem ty53 : tiOf Tryd.prog 53 = some ⟨.oth, 1, 8, [.nilF]⟩ := by kernel_rfl
theorem ty54 : tiOf Tryd.prog 54 = some ⟨.int .u64, 1, 8, [.int .u64 0]⟩ := by kernel_rfl
theorem ty55 : tiOf Tryd.prog 55 = some ⟨.oth, 1, 8, [.nilF]⟩ := by kernel_rfl
theorem ty56 : tiOf Tryd.prog 56 = some ⟨.str, 4, 40, [.int .i64 0, .int .i64 0, .int .i64 0, .str ⟨#[]⟩]⟩ := by kernel_rfl
theorem ty57 : tiOf Tryd.prog 57 = some ⟨.str, 4, 40, [.int .i64 0, .int .i64 0, .int .i64 0, .str ⟨#[]⟩]⟩ := by kernel_rfl
theorem ty58 : tiOf Tryd.prog 58 = some ⟨.int .u64, 1, 8, [.int .u64 0]⟩ := by kernel_rfl
theorem ty59 : tiOf Tryd.prog 59 = some ⟨.str, 4, 40, [.int .i64 0, .int .i64 0, .int .u64 0, .str ⟨#[]⟩]⟩ := by kernel_rfl
theorem ty60 : tiOf Tryd.prog 60 = some ⟨.str, 4, 40, [.int .i64 0, .int .i64 0, .int .u64 0, .str ⟨#[]⟩]⟩ := by kernel_rfl
theorem ty61 : tiOf Tryd.prog 61 = some ⟨.oth, 1, 8, [.nilF]⟩ := by kernel_rfl
theorem ty62 : tiOf Tryd.prog 62 = some ⟨.oth, 1, 8, [.nilF]⟩ := by kernel_rfl
theorem ty64 : tiOf Tryd.prog 64 = some ⟨.oth, 1, 8, [.nilF]⟩ := by kernel_rfl
theorem ty65 : tiOf Tryd.prog 65 = some ⟨.oth, 1, 8, [.nilF]⟩ := by kernel_rfl
theorem ty66 : tiOf Tryd.prog 66 = some ⟨.oth, 1, 8, [.nilF]⟩ := by kernel_rfl
theorem ty67 : tiOf Tryd.prog 67 = some ⟨.slc 9, 1, 24, [.nil]⟩ := by kernel_rfl
theorem ty69 : tiOf Tryd.prog 69 = some ⟨.oth, 1, 8, [.nilF]⟩ := by kernel_rfl
theorem ty70 : tiOf Tryd.prog 70 = some ⟨.oth, 1, 8, [.nilF]⟩ := by kernel_rfl
theorem ty71 : tiOf Tryd.prog 71 = some ⟨.oth, 1, 8, [.nilF]⟩ := by kernel_rfl
theorem ty72 : tiOf Tryd.prog 72 = some ⟨.oth, 1, 8, [.nilF]⟩ := by kernel_rfl
theorem ty73 : tiOf Tryd.prog 73 = some ⟨.oth, 1, 8, [.nilF]⟩ := by kernel_rfl
theorem ty74 : tiOf Tryd.prog 74 = some ⟨.oth, 1, 8, [.nilF]⟩ := by kernel_rfl
theorem ty76 : tiOf Tryd.prog 76 = some ⟨.oth, 1, 8, [.nilF]⟩ := by kernel_rfl
theorem ty77 : tiOf Tryd.prog 77 = some ⟨.oth, 1, 8, [.nilF]⟩ := by kernel_rfl
theorem ty78 : tiOf Tryd.prog 78 = some ⟨.arr 64 29, 64, 256, List.replicate 64 (.int .u32 0)⟩ := by kernel_rfl
theorem ty79 : tiOf Tryd.prog 79 = some ⟨.oth, 1, 8, [.nilF]⟩ := by kernel_rfl
theorem ty80 : tiOf Tryd.prog 80 = some ⟨.oth, 1, 8, [.nilF]⟩ := by kernel_rfl
theorem ty81 : tiOf Tryd.prog 81 = some ⟨.oth, 1, 8, [.nilF]⟩ := by kernel_rfl
theorem ty82 : tiOf Tryd.prog 82 = some ⟨.flt, 1, 8, [.flt .f64 0]⟩ := by kernel_rfl
theorem ty83 : tiOf Tryd.prog 83 = some ⟨.oth, 1, 8, [.nilF]⟩ := by kernel_rfl
theorem ty84 : tiOf Tryd.prog 84 = some ⟨.oth, 1, 8, [.nilF]⟩ := by kernel_rfl
theorem ty85 : tiOf Tryd.prog 85 = some ⟨.oth, 1, 8, [.nilF]⟩ := by kernel_rfl
theorem ty86 : tiOf Tryd.prog 86 = some ⟨.oth, 1, 8, [.nilF]⟩ := by kernel_rfl
theorem ty87 : tiOf Tryd.prog 87 = some ⟨.oth, 1, 8, [.nilF]⟩ := by kernel_rfl
theorem ty90 : tiOf Tryd.prog 90 = some ⟨.oth, 1, 8, [.nilF]⟩ := by kernel_rfl
theorem ty91 : tiOf Tryd.prog 91 = some ⟨.oth, 1, 8, [.nilF]⟩ := by kernel_rfl
theorem ty92 : tiOf Tryd.prog 92 = some ⟨.oth, 1, 8, [.nilF]⟩ := by kernel_rfl
theorem ty93 : tiOf Tryd.prog 93 = some ⟨.arr 256 5, 256, 256, List.replicate 256 (.int .u8 0)⟩ := by kernel_rfl
theorem ty94 : tiOf Tryd.prog 94 = some ⟨.str, 2, 2, [.int .u8 0, .int .u8 0]⟩ := by kernel_rfl
theorem ty95 : tiOf Tryd.prog 95 = some ⟨.str, 2, 2, [.int .u8 0, .int .u8 0]⟩ := by kernel_rfl
theorem ty96 : tiOf Tryd.prog 96 = some ⟨.arr 16 95, 32, 32, List.replicate 32 (.int .u8 0)⟩ := by kernel_rfl
theorem ty97 : tiOf Tryd.prog 97 = some ⟨.oth, 1, 8, [.nilF]⟩ := by kernel_rfl
theorem ty98 : tiOf Tryd.prog 98 = some ⟨.oth, 1, 8, [.nilF]⟩ := by kernel_rfl
theorem ty101 : tiOf Tryd.prog 101 = some ⟨.arr 0 16, 0, 0, []⟩ := by kernel_rfl
theorem ty102 : tiOf Tryd.prog 102 = some ⟨.str, 0, 0, []⟩ := by kernel_rfl
theorem ty103 : tiOf Tryd.prog 103 = some ⟨.str, 0, 0, []⟩ := by kernel_rfl
theorem ty104 : tiOf Tryd.prog 104 = some ⟨.oth, 1, 8, [.nilF]⟩ := by kernel_rfl
theorem ty105 : tiOf Tryd.prog 105 = some ⟨.int .u8, 1, 1, [.int .u8 0]⟩ := by kernel_rfl
theorem ty106 : tiOf Tryd.prog 106 = some ⟨.int .u8, 1, 1, [.int .u8 0]⟩ := by kernel_rfl
theorem ty107 : tiOf Tryd.prog 107 = some ⟨.oth, 1, 8, [.nilF]⟩ := by kernel_rfl
theorem ty109 : tiOf Tryd.prog 109 = some ⟨.int .i32, 1, 4, [.int .i32 0]⟩ := by kernel_rfl
theorem ty110 : tiOf Tryd.prog 110 = some ⟨.int .i32, 1, 4, [.int .i32 0]⟩ := by kernel_rfl
theorem ly7 : laysOf Tryd.prog 7 = some [(0, 1), (1, 1), (2, 1), (3, 1)] := by kernel_rfl
theorem ly8 : laysOf Tryd.prog 8 = some [(0, 1), (1, 1), (2, 1), (3, 1)] := by kernel_rfl
theorem ly13 : laysOf Tryd.prog 13 = some [(0, 1), (1, 1)] := by kernel_rfl
theorem ly14 : laysOf Tryd.prog 14 = some [(0, 1), (1, 1)] := by kernel_rfl
theorem ly22 : laysOf Tryd.prog 22 = some [(0, 1), (1, 1)] := by kernel_rfl
theorem ly35 : laysOf Tryd.prog 35 = some [(0, 1), (1, 1), (2, 1)] := by kernel_rfl
theorem ly36 : laysOf Tryd.prog 36 = some [(0, 1), (1, 1), (2, 1)] := by kernel_rfl
theorem ly50 : laysOf Tryd.prog 50 = some [(0, 8), (8, 64), (72, 1), (73, 1)] := by kernel_rfl
theorem ly51 : laysOf Tryd.prog 51 = some [(0, 8), (8, 64), (72, 1), (73, 1)] := by kernel_rfl
theorem ly56 : laysOf Tryd.prog 56 = some [(0, 1), (1, 1), (2, 1), (3, 1)] := by kernel_rfl
theorem ly57 : laysOf Tryd.prog 57 = some [(0, 1), (1, 1), (2, 1), (3, 1)] := by kernel_rfl
theorem ly59 : laysOf Tryd.prog 59 = some [(0, 1), (1, 1), (2, 1), (3, 1)] := by kernel_rfl
theorem ly60 : laysOf Tryd.prog 60 = some [(0, 1), (1, 1), (2, 1), (3, 1)] := by kernel_rfl
theorem ly94 : laysOf Tryd.prog 94 = some [(0, 1), (1, 1)] := by kernel_rfl
theorem ly95 : laysOf Tryd.prog 95 = some [(0, 1), (1, 1)] := by kernel_rfl
theorem ly102 : laysOf Tryd.prog 102 = some [(0, 0)] := by kernel_rfl
theorem ly103 : laysOf Tryd.prog 103 = some [(0, 0)] := by kernel_rfl
def tyT : List (Nat × TI) := [(1, ⟨.oth, 1, 8, [.nilF]⟩), (2, ⟨.int .i64, 1, 8, [.int .i64 0]⟩), (3, ⟨.int .i64, 1, 8, [.int .i64 0]⟩), (4, ⟨.bool, 1, 1, [.bool false]⟩), (5, ⟨.int .u8, 1, 1, [.int .u8 0]⟩), (6, ⟨.int .u8, 1, 1, [.int .u8 0]⟩), (7, ⟨.str, 4, 24, [.int .i64 0, .int .i64 0, .bool false, .int .u8 0]⟩), (8, ⟨.str, 4, 24, [.int .i64 0, .int .i64 0, .bool false, .int .u8 0]⟩), (9, ⟨.strg, 1, 16, [.str ⟨#[]⟩]⟩), (10, ⟨.strg, 1, 16, [.str ⟨#[]⟩]⟩), (11, ⟨.strg, 1, 16, [.str ⟨#[]⟩]⟩), (12, ⟨.int .u64, 1, 8, [.int .u64 0]⟩), (13, ⟨.str, 2, 24, [.str ⟨#[]⟩, .int .u64 0]⟩), (14, ⟨.str, 2, 24, [.str ⟨#[]⟩, .int .u64 0]⟩), (21, ⟨.int .i32, 1, 4, [.int .i32 0]⟩), (22, ⟨.str, 2, 32, [.str ⟨#[]⟩, .str ⟨#[]⟩]⟩), (23, ⟨.slc 22, 1, 24, [.nil]⟩), (24, ⟨.oth, 1, 8, [.nilF]⟩), (25, ⟨.arr 32 5, 32, 32, List.replicate 32 (.int .u8 0)⟩), (26, ⟨.oth, 1, 8, [.nilF]⟩), (27, ⟨.slc 5, 1, 24, [.nil]⟩), (28, ⟨.oth, 1, 8, [.nilF]⟩), (29, ⟨.int .u32, 1, 4, [.int .u32 0]⟩), (30, ⟨.oth, 1, 8, [.nilF]⟩), (31, ⟨.oth, 1, 8, [.nilF]⟩), (32, ⟨.slc 57, 1, 24, [.nil]⟩), (33, ⟨.int .i64, 1, 8, [.int .i64 0]⟩), (34, ⟨.slc 37, 1, 24, [.nil]⟩), (35, ⟨.str, 3, 40, [.int .i64 0, .int .i64 0, .nil]⟩), (36, ⟨.str, 3, 40, [.int .i64 0, .int .i64 0, .nil]⟩), (37, ⟨.slc 60, 1, 24, [.nil]⟩), (38, ⟨.oth, 1, 8, [.nilF]⟩), (40, ⟨.oth, 1, 8, [.nilF]⟩), (42, ⟨.oth, 1, 8, [.nilF]⟩), (43, ⟨.oth, 1, 8, [.nilF]⟩), (44, ⟨.oth, 1, 8, [.nilF]⟩), (45, ⟨.oth, 1, 8, [.nilF]⟩), (46, ⟨.oth, 1, 8, [.nilF]⟩), (47, ⟨.oth, 1, 8, [.nilF]⟩), (48, ⟨.arr 8 29, 8, 32, [.int .u32 0, .int .u32 0, .int .u32 0, .int .u32 0, .int .u32 0, .int .u32 0, .int .u32 0, .int .u32 0]⟩), (49, ⟨.arr 64 5, 64, 64, List.replicate 64 (.int .u8 0)⟩), (50, ⟨.str, 74, 112, [.int .u32 0, .int .u32 0, .int .u32 0, .int .u32 0, .int .u32 0, .int .u32 0, .int .u32 0, .int .u32 0, .int .u8 0, .int .u8 0, .int .u8 0, .int .u8 0, .int .u8 0, .int .u8 0, .int .u8 0, .int .u8 0, .int .u8 0, .int .u8 0, .int .u8 0, .int .u8 0, .int .u8 0, .int .u8 0, .int .u8 0, .int .u8 0, .int .u8 0, .int .u8 0, .int .u8 0, .int .u8 0, .int .u8 0, .int .u8 0, .int .u8 0, .int .u8 0, .int .u8 0, .int .u8 0, .int .u8 0, .int .u8 0, .int .u8 0, .int .u8 0, .int .u8 0, .int .u8 0, .int .u8 0, .int .u8 0, .int .u8 0, .int .u8 0, .int .u8 0, .int .u8 0, .int .u8 0, .int .u8 0, .int .u8 0, .int .u8 0, .int .u8 0, .int .u8 0, .int .u8 0, .int .u8 0, .int .u8 0, .int .u8 0, .int .u8 0, .int .u8 0, .int .u8 0, .int .u8 0, .int .u8 0, .int .u8 0, .int .u8 0, .int .u8 0, .int .u8 0, .int .u8 0, .int .u8 0, .int .u8 0, .int .u8 0, .int .u8 0, .int .u8 0, .int .u8 0, .int .i64 0, .int .i64 0]⟩), (51, ⟨.str, 74, 112, [.int .u32 0, .int .u32 0, .int .u32 0, .int .u32 0, .int .u32 0, .int .u32 0, .int .u32 0, .int .u32 0, .int .u8 0, .int .u8 0, .int .u8 0, .int .u8 0, .int .u8 0, .int .u8 0, .int .u8 0, .int .u8 0, .int .u8 0, .int .u8 0, .int .u8 0, .int .u8 0, .int .u8 0, .int .u8 0, .int .u8 0, .int .u8 0, .int .u8 0, .int .u8 0, .int .u8 0, .int .u8 0, .int .u8 0, .int .u8 0, .int .u8 0, .int .u8 0, .int .u8 0, .int .u8 0, .int .u8 0, .int .u8 0, .int .u8 0, .int .u8 0, .int .u8 0, .int .u8 0, .int .u8 0, .int .u8 0, .int .u8 0, .int .u8 0, .int .u8 0, .int .u8 0, .int .u8 0, .int .u8 0, .int .u8 0, .int .u8 0, .int .u8 0, .int .u8 0, .int .u8 0, .int .u8 0, .int .u8 0, .int .u8 0, .int .u8 0, .int .u8 0, .int .u8 0, .int .u8 0, .int .u8 0, .int .u8 0, .int .u8 0, .int .u8 0, .int .u8 0, .int .u8 0, .int .u8 0, .int .u8 0, .int .u8 0, .int .u8 0, .int .u8 0, .int .u8 0, .int .i64 0, .int .i64 0]⟩), (52, ⟨.oth, 1, 8, [.nilF]⟩), (53, ⟨.oth, 1, 8, [.nilF]⟩), (54, ⟨.int .u64, 1, 8, [.int .u64 0]⟩), (55, ⟨.oth, 1, 8, [.nilF]⟩), (56, ⟨.str, 4, 40, [.int .i64 0, .int .i64 0, .int .i64 0, .str ⟨#[]⟩]⟩), (57, ⟨.str, 4, 40, [.int .i64 0, .int .i64 0, .int .i64 0, .str ⟨#[]⟩]⟩), (58, ⟨.int .u64, 1, 8, [.int .u64 0]⟩), (59, ⟨.str, 4, 40, [.int .i64 0, .int .i64 0, .int .u64 0, .str ⟨#[]⟩]⟩), (60, ⟨.str, 4, 40, [.int .i64 0, .int .i64 0, .int .u64 0, .str ⟨#[]⟩]⟩), (61, ⟨.oth, 1, 8, [.nilF]⟩), (62, ⟨.oth, 1, 8, [.nilF]⟩), (64, ⟨.oth, 1, 8, [.nilF]⟩), (65, ⟨.oth, 1, 8, [.nilF]⟩), (66, ⟨.oth, 1, 8, [.nilF]⟩), (67, ⟨.slc 9, 1, 24, [.nil]⟩), (69, ⟨.oth, 1, 8, [.nilF]⟩), (70, ⟨.oth, 1, 8, [.nilF]⟩), (71, ⟨.oth, 1, 8, [.nilF]⟩), (72, ⟨.oth, 1, 8, [.nilF]⟩), (73, ⟨.oth, 1, 8, [.nilF]⟩), (74, ⟨.oth, 1, 8, [.nilF]⟩), (76, ⟨.oth, 1, 8, [.nilF]⟩), (77, ⟨.oth, 1, 8, [.nilF]⟩), (78, ⟨.arr 64 29, 64, 256, List.replicate 64 (.int .u32 0)⟩), (79, ⟨.oth, 1, 8, [.nilF]⟩), (80, ⟨.oth, 1, 8, [.nilF]⟩), (81, ⟨.oth, 1, 8, [.nilF]⟩), (82, ⟨.flt, 1, 8, [.flt .f64 0]⟩), (83, ⟨.oth, 1, 8, [.nilF]⟩), (84, ⟨.oth, 1, 8, [.nilF]⟩), (85, ⟨.oth, 1, 8, [.nilF]⟩), (86, ⟨.oth, 1, 8, [.nilF]⟩), (87, ⟨.oth, 1, 8, [.nilF]⟩), (90, ⟨.oth, 1, 8, [.nilF]⟩), (91, ⟨.oth, 1, 8, [.nilF]⟩), (92, ⟨.oth, 1, 8, [.nilF]⟩), (93, ⟨.arr 256 5, 256, 256, List.replicate 256 (.int .u8 0)⟩), (94, ⟨.str, 2, 2, [.int .u8 0, .int .u8 0]⟩), (95, ⟨.str, 2, 2, [.int .u8 0, .int .u8 0]⟩), (96, ⟨.arr 16 95, 32, 32, List.replicate 32 (.int .u8 0)⟩), (97, ⟨.oth, 1, 8, [.nilF]⟩), (98, ⟨.oth, 1, 8, [.nilF]⟩), (101, ⟨.arr 0 16, 0, 0, []⟩), (102, ⟨.str, 0, 0, []⟩), (103, ⟨.str, 0, 0, []⟩), (104, ⟨.oth, 1, 8, [.nilF]⟩), (105, ⟨.int .u8, 1, 1, [.int .u8 0]⟩), (106, ⟨.int .u8, 1, 1, [.int .u8 0]⟩), (107, ⟨.oth, 1, 8, [.nilF]⟩), (109, ⟨.int .i32, 1, 4, [.int .i32 0]⟩), (110, ⟨.int .i32, 1, 4, [.int .i32 0]⟩)]
def lyT : List (Nat × List (Nat × Nat)) := [(7, [(0, 1), (1, 1), (2, 1), (3, 1)]), (8, [(0, 1), (1, 1), (2, 1), (3, 1)]), (13, [(0, 1), (1, 1)]), (14, [(0, 1), (1, 1)]), (22, [(0, 1), (1, 1)]), (35, [(0, 1), (1, 1), (2, 1)]), (36, [(0, 1), (1, 1), (2, 1)]), (50, [(0, 8), (8, 64), (72, 1), (73, 1)]), (51, [(0, 8), (8, 64), (72, 1), (73, 1)]), (56, [(0, 1), (1, 1), (2, 1), (3, 1)]), (57, [(0, 1), (1, 1), (2, 1), (3, 1)]), (59, [(0, 1), (1, 1), (2, 1), (3, 1)]), (60, [(0, 1), (1, 1), (2, 1), (3, 1)]), (94, [(0, 1), (1, 1)]), (95, [(0, 1), (1, 1)]), (102, [(0, 0)]), (103, [(0, 0)])]
theorem look_mem {α : Type} : ∀ {l : List (Nat × α)} {i : Nat} {x : α}, look l i = some x → (i, x) ∈ l
  | [], i, x, h => by simp [look] at h
  | (k, y) :: l, i, x, h => by
    rw [look_cons] at h
    by_cases c : k = i
    · rw [if_pos c] at h
      obtain rfl := Option.some.inj h
      subst c
      simp
    · rw [if_neg c] at h
      exact List.mem_cons_of_mem _ (look_mem h)
theorem tyOk : ∀ p ∈ tyT, tiOf Tryd.prog p.1 = some p.2 := by
  simp only [tyT, List.forall_mem_cons]
  exact ⟨ty1, ty2, ty3, ty4, ty5, ty6, ty7, ty8, ty9, ty10, ty11, ty12, ty13, ty14, ty21, ty22, ty23, ty24, ty25, ty26, ty27, ty28, ty29, ty30, ty31, ty32, ty33, ty34, ty35, ty36, ty37, ty38, ty40, ty42, ty43, ty44, ty45, ty46, ty47, ty48, ty49, ty50, ty51, ty52, ty53, ty54, ty55, ty56, ty57, ty58, ty59, ty60, ty61, ty62, ty64, ty65, ty66, ty67, ty69, ty70, ty71, ty72, ty73, ty74, ty76, ty77, ty78, ty79, ty80, ty81, ty82, ty83, ty84, ty85, ty86, ty87, ty90, ty91, ty92, ty93, ty94, ty95, ty96, ty97, ty98, ty101, ty102, ty103, ty104, ty105, ty106, ty107, ty109, ty110, fun p h => by simp at h⟩
theorem lyOk : ∀ p ∈ lyT, laysOf Tryd.prog p.1 = some p.2 := by
  simp only [lyT, List.forall_mem_cons]
  exact ⟨ly7, ly8, ly13, ly14, ly22, ly35, ly36, ly50, ly51, ly56, ly57, ly59, ly60, ly94, ly95, ly102, ly103, fun p h => by simp at h⟩
/-- The environment of this program, with what its package variables hold. -/
def tyL (t : Nat) : Option TI := look tyT t
def lyL (t : Nat) : Option (List (Nat × Nat)) := look lyT t
/-- A walk to which nothing is lent; to which those boxes are lent. -/
def EnL (P : Program) (g : Nat → Option (List PV)) (ln : List Nat) : Env := ⟨P, ⟨g, ln⟩, tyL, lyL⟩
abbrev En (P : Program) (g : Nat → Option (List PV)) : Env := EnL P g []
theorem EnLOk (g : Nat → Option (List PV)) (ln : List Nat) : (EnL Tryd.prog g ln).Ok := ⟨fun t i h => tyOk (t, i) (look_mem h), fun t i h => lyOk (t, i) (look_mem h)⟩
theorem EnOk (g : Nat → Option (List PV)) : (En Tryd.prog g).Ok := EnLOk g []
theorem T2 {P : Program} {g : Nat → Option (List PV)} {ln : List Nat} : (EnL P g ln).T 2 = some ⟨.int .i64, 1, 8, [.int .i64 0]⟩ := rfl
theorem T3 {P : Program} {g : Nat → Option (List PV)} {ln : List Nat} : (EnL P g ln).T 3 = some ⟨.int .i64, 1, 8, [.int .i64 0]⟩ := rfl
theorem T5 {P : Program} {g : Nat → Option (List PV)} {ln : List Nat} : (EnL P g ln).T 5 = some ⟨.int .u8, 1, 1, [.int .u8 0]⟩ := rfl
theorem T9 {P : Program} {g : Nat → Option (List PV)} {ln : List Nat} : (EnL P g ln).T 9 = some ⟨.strg, 1, 16, [.str ⟨#[]⟩]⟩ := rfl
theorem T21 {P : Program} {g : Nat → Option (List PV)} {ln : List Nat} : (EnL P g ln).T 21 = some ⟨.int .i32, 1, 4, [.int .i32 0]⟩ := rfl
theorem T27 {P : Program} {g : Nat → Option (List PV)} {ln : List Nat} : (EnL P g ln).T 27 = some ⟨.slc 5, 1, 24, [.nil]⟩ := rfl
theorem T32 {P : Program} {g : Nat → Option (List PV)} {ln : List Nat} : (EnL P g ln).T 32 = some ⟨.slc 57, 1, 24, [.nil]⟩ := rfl
theorem T33 {P : Program} {g : Nat → Option (List PV)} {ln : List Nat} : (EnL P g ln).T 33 = some ⟨.int .i64, 1, 8, [.int .i64 0]⟩ := rfl
theorem T34 {P : Program} {g : Nat → Option (List PV)} {ln : List Nat} : (EnL P g ln).T 34 = some ⟨.slc 37, 1, 24, [.nil]⟩ := rfl
theorem T36 {P : Program} {g : Nat → Option (List PV)} {ln : List Nat} : (EnL P g ln).T 36 = some ⟨.str, 3, 40, [.int .i64 0, .int .i64 0, .nil]⟩ := rfl
theorem T37 {P : Program} {g : Nat → Option (List PV)} {ln : List Nat} : (EnL P g ln).T 37 = some ⟨.slc 60, 1, 24, [.nil]⟩ := rfl
theorem T57 {P : Program} {g : Nat → Option (List PV)} {ln : List Nat} : (EnL P g ln).T 57 = some ⟨.str, 4, 40, [.int .i64 0, .int .i64 0, .int .i64 0, .str ⟨#[]⟩]⟩ := rfl
theorem T58 {P : Program} {g : Nat → Option (List PV)} {ln : List Nat} : (EnL P g ln).T 58 = some ⟨.int .u64, 1, 8, [.int .u64 0]⟩ := rfl
theorem T60 {P : Program} {g : Nat → Option (List PV)} {ln : List Nat} : (EnL P g ln).T 60 = some ⟨.str, 4, 40, [.int .i64 0, .int .i64 0, .int .u64 0, .str ⟨#[]⟩]⟩ := rfl
theorem T67 {P : Program} {g : Nat → Option (List PV)} {ln : List Nat} : (EnL P g ln).T 67 = some ⟨.slc 9, 1, 24, [.nil]⟩ := rfl
theorem T93 {P : Program} {g : Nat → Option (List PV)} {ln : List Nat} : (EnL P g ln).T 93 = some ⟨.arr 256 5, 256, 256, List.replicate 256 (.int .u8 0)⟩ := rfl
theorem T95 {P : Program} {g : Nat → Option (List PV)} {ln : List Nat} : (EnL P g ln).T 95 = some ⟨.str, 2, 2, [.int .u8 0, .int .u8 0]⟩ := rfl
theorem T96 {P : Program} {g : Nat → Option (List PV)} {ln : List Nat} : (EnL P g ln).T 96 = some ⟨.arr 16 95, 32, 32, List.replicate 32 (.int .u8 0)⟩ := rfl
theorem L36 {P : Program} {g : Nat → Option (List PV)} {ln : List Nat} : (EnL P g ln).L 36 = some [(0, 1), (1, 1), (2, 1)] := rfl
theorem L57 {P : Program} {g : Nat → Option (List PV)} {ln : List Nat} : (EnL P g ln).L 57 = some [(0, 1), (1, 1), (2, 1), (3, 1)] := rfl
theorem L60 {P : Program} {g : Nat → Option (List PV)} {ln : List Nat} : (EnL P g ln).L 60 = some [(0, 1), (1, 1), (2, 1), (3, 1)] := rfl
theorem L95 {P : Program} {g : Nat → Option (List PV)} {ln : List Nat} : (EnL P g ln).L 95 = some [(0, 1), (1, 1)] := rfl
theorem mixed : Tryd.prog.follows .mixedOrders = true := by kernel_rfl
end Go.Proofs.YtalcpfpjkfpmbaaDoor.Vm
