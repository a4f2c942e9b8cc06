/- The types of this program as the value machine reads them, each checked by the kernel. Conditions: none. -/
import Derived.Test.YtcbdhdblchmofaaDoorProg
import Derived.Test.YtcbdhdblchmofaaDoorVmN
namespace Go.Proofs.YtcbdhdblchmofaaDoor.Vm
open Go Go.RowKit
set_option maxRecDepth 100000
theorem ty2 : tiOf Tryd.prog 2 = some ⟨.int .i64, 1, 8, [.int .i64 0]⟩ := by kernel_rfl
theorem ty3 : tiOf Tryd.prog 3 = some ⟨.int .i64, 1, 8, [.int .i64 0]⟩ := by kernel_rfl
theorem ty4 : tiOf Tryd.prog 4 = some ⟨.bool, 1, 1, [.bool false]⟩ := by kernel_rfl
theorem ty5 : tiOf Tryd.prog 5 = some ⟨.int .u8, 1, 1, [.int .u8 0]⟩ := by kernel_rfl
theorem ty6 : tiOf Tryd.prog 6 = some ⟨.int .u8, 1, 1, [.int .u8 0]⟩ := by kernel_rfl
theorem ty7 : tiOf Tryd.prog 7 = some ⟨.str, 4, 24, [.int .i64 0, .int .i64 0, .bool false, .int .u8 0]⟩ := by kernel_rfl
theorem ty8 : tiOf Tryd.prog 8 = some ⟨.str, 4, 24, [.int .i64 0, .int .i64 0, .bool false, .int .u8 0]⟩ := by kernel_rfl
theorem ty9 : tiOf Tryd.prog 9 = some ⟨.strg, 1, 16, [.str ⟨#[]⟩]⟩ := by kernel_rfl
theorem ty10 : tiOf Tryd.prog 10 = some ⟨.strg, 1, 16, [.str ⟨#[]⟩]⟩ := by kernel_rfl
theorem ty11 : tiOf Tryd.prog 11 = some ⟨.strg, 1, 16, [.str ⟨#[]⟩]⟩ := by kernel_rfl
theorem ty12 : tiOf Tryd.prog 12 = some ⟨.int .u64, 1, 8, [.int .u64 0]⟩ := by kernel_rfl
theorem ty13 : tiOf Tryd.prog 13 = some ⟨.str, 2, 24, [.str ⟨#[]⟩, .int .u64 0]⟩ := by kernel_rfl
theorem ty14 : tiOf Tryd.prog 14 = some ⟨.str, 2, 24, [.str ⟨#[]⟩, .int .u64 0]⟩ := by kernel_rfl
theorem ty21 : tiOf Tryd.prog 21 = some ⟨.int .i32, 1, 4, [.int .i32 0]⟩ := by kernel_rfl
theorem ty22 : tiOf Tryd.prog 22 = some ⟨.str, 2, 32, [.str ⟨#[]⟩, .str ⟨#[]⟩]⟩ := by kernel_rfl
theorem ty23 : tiOf Tryd.prog 23 = some ⟨.slc 22, 1, 24, [.nil]⟩ := by kernel_rfl
theorem ty25 : tiOf Tryd.prog 25 = some ⟨.arr 32 5, 32, 32, List.replicate 32 (.int .u8 0)⟩ := by kernel_rfl
theorem ty27 : tiOf Tryd.prog 27 = some ⟨.slc 5, 1, 24, [.nil]⟩ := by kernel_rfl
theorem ty29 : tiOf Tryd.prog 29 = some ⟨.int .u32, 1, 4, [.int .u32 0]⟩ := by kernel_rfl
theorem ty32 : tiOf Tryd.prog 32 = some ⟨.int .i64, 1, 8, [.int .i64 0]⟩ := by kernel_rfl
theorem ty36 : tiOf Tryd.prog 36 = some ⟨.arr 8 29, 8, 32, [.int .u32 0, .int .u32 0, .int .u32 0, .int .u32 0, .int .u32 0, .int .u32 0, .int .u32 0, .int .u32 0]⟩ := by kernel_rfl
theorem ty37 : tiOf Tryd.prog 37 = some ⟨.arr 64 5, 64, 64, List.replicate 64 (.int .u8 0)⟩ := by kernel_rfl
theorem ty38 : tiOf Tryd.prog 38 = some ⟨.str, 74, 112, [.int .u32 0, .int .u32 0, .int .u32 0, .int .u32 0, .int .u32 0, .int .u32 0, .int .u32 0, .int .u32 0, .int .u8 0, .int .u8 0, .int .u8 0, .int .u8 0, .int .u8 0, .int .u8 0, .int .u8 0, .int .u8 0, .int .u8 0, .int .u8 0, .int .u8 0, .int .u8 0, .int .u8 0, .int .u8 0, .int .u8 0, .int .u8 0, .int .u8 0, .int .u8 0, .int .u8 0, .int .u8 0, .int .u8 0, .int .u8 0, .int .u8 0, .int .u8 0, .int .u8 0, .int .u8 0, .int .u8 0, .int .u8 0, .int .u8 0, .int .u8 0, .int .u8 0, .int .u8 0, .int .u8 0, .int .u8 0, .int .u8 0, .int .u8 0, .int .u8 0, .int .u8 0, .int .u8 0, .int .u8 0, .int .u8 0, .int .u8 0, .int .u8 0, .int .u8 0, .int .u8 0, .int .u8 0, .int .u8 0, .int .u8 0, .int .u8 0, .int .u8 0, .int .u8 0, .int .u8 0, .int .u8 0, .int .u8 0, .int .u8 0, .int .u8 0, .int .u8 0, .int .u8 0, .int .u8 0, .int .u8 0, .int .u8 0, .int .u8 0, .int .u8 0, .int .u8 0, .int .i64 0, .int .i64 0]⟩ := by kernel_rfl
theorem ty39 : tiOf Tryd.prog 39 = some ⟨.str, 74, 112, [.int .u32 0, .int .u32 0, .int .u32 0, .int .u32 0, .int .u32 0, .int .u32 0, .int .u32 0, .int .u32 0, .int .u8 0, .int .u8 0, .int .u8 0, .int .u8 0, .int .u8 0, .int .u8 0, .int .u8 0, .int .u8 0, .int .u8 0, .int .u8 0, .int .u8 0, .int .u8 0, .int .u8 0, .int .u8 0, .int .u8 0, .int .u8 0, .int .u8 0, .int .u8 0, .int .u8 0, .int .u8 0, .int .u8 0, .int .u8 0, .int .u8 0, .int .u8 0, .int .u8 0, .int .u8 0, .int .u8 0, .int .u8 0, .int .u8 0, .int .u8 0, .int .u8 0, .int .u8 0, .int .u8 0, .int .u8 0, .int .u8 0, .int .u8 0, .int .u8 0, .int .u8 0, .int .u8 0, .int .u8 0, .int .u8 0, .int .u8 0, .int .u8 0, .int .u8 0, .int .u8 0, .int .u8 0, .int .u8 0, .int .u8 0, .int .u8 0, .int .u8 0, .int .u8 0, .int .u8 0, .int .u8 0, .int .u8 0, .int .u8 0, .int .u8 0, .int .u8 0, .int .u8 0, .int .u8 0, .int .u8 0, .int .u8 0, .int .u8 0, .int .u8 0, .int .u8 0, .int .i64 0, .int .i64 0]⟩ := by kernel_rfl
theorem ty41 : tiOf Tryd.prog 41 = some ⟨.slc 27, 1, 24, [.nil]⟩ := by kernel_rfl
theorem ty48 : tiOf Tryd.prog 48 = some ⟨.str, 4, 40, [.int .i64 0, .int .i64 0, .int .i64 0, .str ⟨#[]⟩]⟩ := by kernel_rfl
theorem ty49 : tiOf Tryd.prog 49 = some ⟨.str, 4, 40, [.int .i64 0, .int .i64 0, .int .i64 0, .str ⟨#[]⟩]⟩ := by kernel_rfl
theorem ty50 : tiOf Tryd.prog 50 = some ⟨.int .u64, 1, 8, [.int .u64 0]⟩ := by kernel_rfl
theorem ty51 : tiOf Tryd.prog 51 = some ⟨.str, 4, 40, [.int .i64 0, .int .i64 0, .int .u64 0, .str ⟨#[]⟩]⟩ := by kernel_rfl
theorem ty52 : tiOf Tryd.prog 52 = some ⟨.str, 4, 40, [.int .i64 0, .int .i64 0, .int .u64 0, .str ⟨#[]⟩]⟩ := by kernel_rfl
theorem ty60 : tiOf Tryd.prog 60 = some ⟨.slc 49, 1, 24, [.nil]⟩ := by kernel_rfl
theorem ty68 : tiOf Tryd.prog 68 = some ⟨.slc 75, 1, 24, [.nil]⟩ := by kernel_rfl
theorem ty74 : tiOf Tryd.prog 74 = some ⟨.str, 3, 56, [.bool false, .nil, .nil]⟩ := by kernel_rfl
theorem ty75 : tiOf Tryd.prog 75 = some ⟨.str, 3, 56, [.bool false, .nil, .nil]⟩ := by kernel_rfl
theorem ty83 : tiOf Tryd.prog 83 = some ⟨.int .u64, 1, 8, [.int .u64 0]⟩ := by kernel_rfl
theorem ty104 : tiOf Tryd.prog 104 = some ⟨.str, 2, 32, [.int .i64 0, .nil]⟩ := by kernel_rfl
theorem ty105 : tiOf Tryd.prog 105 = some ⟨.str, 2, 32, [.int .i64 0, .nil]⟩ := by kernel_rfl
theorem ty109 : tiOf Tryd.prog 109 = some ⟨.flt, 1, 8, [.flt .f64 0]⟩ := by kernel_rfl
theorem ty111 : tiOf Tryd.prog 111 = some ⟨.arr 64 29, 64, 256, List.replicate 64 (.int .u32 0)⟩ := by kernel_rfl
theorem ty117 : tiOf Tryd.prog 117 = some ⟨.arr 256 5, 256, 256, List.replicate 256 (.int .u8 0)⟩ := by kernel_rfl
theorem ty118 : tiOf Tryd.prog 118 = some ⟨.str, 2, 2, [.int .u8 0, .int .u8 0]⟩ := by kernel_rfl
theorem ty119 : tiOf Tryd.prog 119 = some ⟨.str, 2, 2, [.int .u8 0, .int .u8 0]⟩ := by kernel_rfl
theorem ty120 : tiOf Tryd.prog 120 = some ⟨.arr 16 119, 32, 32, List.replicate 32 (.int .u8 0)⟩ := by kernel_rfl
theorem ty124 : tiOf Tryd.prog 124 = some ⟨.arr 0 16, 0, 0, []⟩ := by kernel_rfl
theorem ty125 : tiOf Tryd.prog 125 = some ⟨.str, 0, 0, []⟩ := by kernel_rfl
theorem ty126 : tiOf Tryd.prog 126 = some ⟨.str, 0, 0, []⟩ := by kernel_rfl
theorem ty128 : tiOf Tryd.prog 128 = some ⟨.int .u8, 1, 1, [.int .u8 0]⟩ := by kernel_rfl
theorem ty129 : tiOf Tryd.prog 129 = some ⟨.int .u8, 1, 1, [.int .u8 0]⟩ := by kernel_rfl
theorem ty132 : tiOf Tryd.prog 132 = some ⟨.int .i32, 1, 4, [.int .i32 0]⟩ := by kernel_rfl
theorem ty133 : tiOf Tryd.prog 133 = some ⟨.int .i32, 1, 4, [.int .i32 0]⟩ := by kernel_rfl
theorem ly7 : laysOf Tryd.prog 7 = some [(0, 1), (1, 1), (2, 1), (3, 1)] := by kernel_rfl
theorem ly8 : laysOf Tryd.prog 8 = some [(0, 1), (1, 1), (2, 1), (3, 1)] := by kernel_rfl
theorem ly13 : laysOf Tryd.prog 13 = some [(0, 1), (1, 1)] := by kernel_rfl
theorem ly14 : laysOf Tryd.prog 14 = some [(0, 1), (1, 1)] := by kernel_rfl
theorem ly22 : laysOf Tryd.prog 22 = some [(0, 1), (1, 1)] := by kernel_rfl
theorem ly38 : laysOf Tryd.prog 38 = some [(0, 8), (8, 64), (72, 1), (73, 1)] := by kernel_rfl
theorem ly39 : laysOf Tryd.prog 39 = some [(0, 8), (8, 64), (72, 1), (73, 1)] := by kernel_rfl
theorem ly48 : laysOf Tryd.prog 48 = some [(0, 1), (1, 1), (2, 1), (3, 1)] := by kernel_rfl
theorem ly49 : laysOf Tryd.prog 49 = some [(0, 1), (1, 1), (2, 1), (3, 1)] := by kernel_rfl
theorem ly51 : laysOf Tryd.prog 51 = some [(0, 1), (1, 1), (2, 1), (3, 1)] := by kernel_rfl
theorem ly52 : laysOf Tryd.prog 52 = some [(0, 1), (1, 1), (2, 1), (3, 1)] := by kernel_rfl
theorem ly74 : laysOf Tryd.prog 74 = some [(0, 1), (1, 1), (2, 1)] := by kernel_rfl
theorem ly75 : laysOf Tryd.prog 75 = some [(0, 1), (1, 1), (2, 1)] := by kernel_rfl
theorem ly104 : laysOf Tryd.prog 104 = some [(0, 1), (1, 1)] := by kernel_rfl
theorem ly105 : laysOf Tryd.prog 105 = some [(0, 1), (1, 1)] := by kernel_rfl
theorem ly118 : laysOf Tryd.prog 118 = some [(0, 1), (1, 1)] := by kernel_rfl
theorem ly119 : laysOf Tryd.prog 119 = some [(0, 1), (1, 1)] := by kernel_rfl
theorem ly125 : laysOf Tryd.prog 125 = some [(0, 0)] := by kernel_rfl
theorem ly126 : laysOf Tryd.prog 126 = some [(0, 0)] := by kernel_rfl
def tyT : List (Nat × TI) := [(2, ⟨.int .i64, 1, 8, [.int .i64 0]⟩), (3, ⟨.int .i64, 1, 8, [.int .i64 0]⟩), (4, ⟨.bool, 1, 1, [.bool false]⟩), (5, ⟨.int .u8, 1, 1, [.int .u8 0]⟩), (6, ⟨.int .u8, 1, 1, [.int .u8 0]⟩), (7, ⟨.str, 4, 24, [.int .i64 0, .int .i64 0, .bool false, .int .u8 0]⟩), (8, ⟨.str, 4, 24, [.int .i64 0, .int .i64 0, .bool false, .int .u8 0]⟩), (9, ⟨.strg, 1, 16, [.str ⟨#[]⟩]⟩), (10, ⟨.strg, 1, 16, [.str ⟨#[]⟩]⟩), (11, ⟨.strg, 1, 16, [.str ⟨#[]⟩]⟩), (12, ⟨.int .u64, 1, 8, [.int .u64 0]⟩), (13, ⟨.str, 2, 24, [.str ⟨#[]⟩, .int .u64 0]⟩), (14, ⟨.str, 2, 24, [.str ⟨#[]⟩, .int .u64 0]⟩), (21, ⟨.int .i32, 1, 4, [.int .i32 0]⟩), (22, ⟨.str, 2, 32, [.str ⟨#[]⟩, .str ⟨#[]⟩]⟩), (23, ⟨.slc 22, 1, 24, [.nil]⟩), (25, ⟨.arr 32 5, 32, 32, List.replicate 32 (.int .u8 0)⟩), (27, ⟨.slc 5, 1, 24, [.nil]⟩), (29, ⟨.int .u32, 1, 4, [.int .u32 0]⟩), (32, ⟨.int .i64, 1, 8, [.int .i64 0]⟩), (36, ⟨.arr 8 29, 8, 32, [.int .u32 0, .int .u32 0, .int .u32 0, .int .u32 0, .int .u32 0, .int .u32 0, .int .u32 0, .int .u32 0]⟩), (37, ⟨.arr 64 5, 64, 64, List.replicate 64 (.int .u8 0)⟩), (38, ⟨.str, 74, 112, [.int .u32 0, .int .u32 0, .int .u32 0, .int .u32 0, .int .u32 0, .int .u32 0, .int .u32 0, .int .u32 0, .int .u8 0, .int .u8 0, .int .u8 0, .int .u8 0, .int .u8 0, .int .u8 0, .int .u8 0, .int .u8 0, .int .u8 0, .int .u8 0, .int .u8 0, .int .u8 0, .int .u8 0, .int .u8 0, .int .u8 0, .int .u8 0, .int .u8 0, .int .u8 0, .int .u8 0, .int .u8 0, .int .u8 0, .int .u8 0, .int .u8 0, .int .u8 0, .int .u8 0, .int .u8 0, .int .u8 0, .int .u8 0, .int .u8 0, .int .u8 0, .int .u8 0, .int .u8 0, .int .u8 0, .int .u8 0, .int .u8 0, .int .u8 0, .int .u8 0, .int .u8 0, .int .u8 0, .int .u8 0, .int .u8 0, .int .u8 0, .int .u8 0, .int .u8 0, .int .u8 0, .int .u8 0, .int .u8 0, .int .u8 0, .int .u8 0, .int .u8 0, .int .u8 0, .int .u8 0, .int .u8 0, .int .u8 0, .int .u8 0, .int .u8 0, .int .u8 0, .int .u8 0, .int .u8 0, .int .u8 0, .int .u8 0, .int .u8 0, .int .u8 0, .int .u8 0, .int .i64 0, .int .i64 0]⟩), (39, ⟨.str, 74, 112, [.int .u32 0, .int .u32 0, .int .u32 0, .int .u32 0, .int .u32 0, .int .u32 0, .int .u32 0, .int .u32 0, .int .u8 0, .int .u8 0, .int .u8 0, .int .u8 0, .int .u8 0, .int .u8 0, .int .u8 0, .int .u8 0, .int .u8 0, .int .u8 0, .int .u8 0, .int .u8 0, .int .u8 0, .int .u8 0, .int .u8 0, .int .u8 0, .int .u8 0, .int .u8 0, .int .u8 0, .int .u8 0, .int .u8 0, .int .u8 0, .int .u8 0, .int .u8 0, .int .u8 0, .int .u8 0, .int .u8 0, .int .u8 0, .int .u8 0, .int .u8 0, .int .u8 0, .int .u8 0, .int .u8 0, .int .u8 0, .int .u8 0, .int .u8 0, .int .u8 0, .int .u8 0, .int .u8 0, .int .u8 0, .int .u8 0, .int .u8 0, .int .u8 0, .int .u8 0, .int .u8 0, .int .u8 0, .int .u8 0, .int .u8 0, .int .u8 0, .int .u8 0, .int .u8 0, .int .u8 0, .int .u8 0, .int .u8 0, .int .u8 0, .int .u8 0, .int .u8 0, .int .u8 0, .int .u8 0, .int .u8 0, .int .u8 0, .int .u8 0, .int .u8 0, .int .u8 0, .int .i64 0, .int .i64 0]⟩), (41, ⟨.slc 27, 1, 24, [.nil]⟩), (48, ⟨.str, 4, 40, [.int .i64 0, .int .i64 0, .int .i64 0, .str ⟨#[]⟩]⟩), (49, ⟨.str, 4, 40, [.int .i64 0, .int .i64 0, .int .i64 0, .str ⟨#[]⟩]⟩), (50, ⟨.int .u64, 1, 8, [.int .u64 0]⟩), (51, ⟨.str, 4, 40, [.int .i64 0, .int .i64 0, .int .u64 0, .str ⟨#[]⟩]⟩), (52, ⟨.str, 4, 40, [.int .i64 0, .int .i64 0, .int .u64 0, .str ⟨#[]⟩]⟩), (60, ⟨.slc 49, 1, 24, [.nil]⟩), (68, ⟨.slc 75, 1, 24, [.nil]⟩), (74, ⟨.str, 3, 56, [.bool false, .nil, .nil]⟩), (75, ⟨.str, 3, 56, [.bool false, .nil, .nil]⟩), (83, ⟨.int .u64, 1, 8, [.int .u64 0]⟩), (104, ⟨.str, 2, 32, [.int .i64 0, .nil]⟩), (105, ⟨.str, 2, 32, [.int .i64 0, .nil]⟩), (109, ⟨.flt, 1, 8, [.flt .f64 0]⟩), (111, ⟨.arr 64 29, 64, 256, List.replicate 64 (.int .u32 0)⟩), (117, ⟨.arr 256 5, 256, 256, List.replicate 256 (.int .u8 0)⟩), (118, ⟨.str, 2, 2, [.int .u8 0, .int .u8 0]⟩), (119, ⟨.str, 2, 2, [.int .u8 0, .int .u8 0]⟩), (120, ⟨.arr 16 119, 32, 32, List.replicate 32 (.int .u8 0)⟩), (124, ⟨.arr 0 16, 0, 0, []⟩), (125, ⟨.str, 0, 0, []⟩), (126, ⟨.str, 0, 0, []⟩), (128, ⟨.int .u8, 1, 1, [.int .u8 0]⟩), (129, ⟨.int .u8, 1, 1, [.int .u8 0]⟩), (132, ⟨.int .i32, 1, 4, [.int .i32 0]⟩), (133, ⟨.int .i32, 1, 4, [.int .i32 0]⟩)]
def lyT : List (Nat × List (Nat × Nat)) := [(7, [(0, 1), (1, 1), (2, 1), (3, 1)]), (8, [(0, 1), (1, 1), (2, 1), (3, 1)]), (13, [(0, 1), (1, 1)]), (14, [(0, 1), (1, 1)]), (22, [(0, 1), (1, 1)]), (38, [(0, 8), (8, 64), (72, 1), (73, 1)]), (39, [(0, 8), (8, 64), (72, 1), (73, 1)]), (48, [(0, 1), (1, 1), (2, 1), (3, 1)]), (49, [(0, 1), (1, 1), (2, 1), (3, 1)]), (51, [(0, 1), (1, 1), (2, 1), (3, 1)]), (52, [(0, 1), (1, 1), (2, 1), (3, 1)]), (74, [(0, 1), (1, 1), (2, 1)]), (75, [(0, 1), (1, 1), (2, 1)]), (104, [(0, 1), (1, 1)]), (105, [(0, 1), (1, 1)]), (118, [(0, 1), (1, 1)]), (119, [(0, 1), (1, 1)]), (125, [(0, 0)]), (126, [(0, 0)])]
theorem look_mem {α : Type} : ∀ {l : List (Nat × α)} {i : Nat} {x : α}, look l i = some x → (i, x) ∈ l
  | [], i, x, h => by simp [look] at h
  | (k, y) :: l, i, x, h => by
    rw [look_cons] at h
    by_cases c : k = i
    · rw [if_pos c] at h
      obtain rfl := Option.some.inj h
      subst c
      simp
    · rw [if_neg c] at h
      exact List.mem_cons_of_mem _ (look_mem h)
theorem tyOk : ∀ p ∈ tyT, tiOf Tryd.prog p.1 = some p.2 := by
  simp only [tyT, List.forall_mem_cons]
  exact ⟨ty2, ty3, ty4, ty5, ty6, ty7, ty8, ty9, ty10, ty11, ty12, ty13, ty14, ty21, ty22, ty23, ty25, ty27, ty29, ty32, ty36, ty37, ty38, ty39, ty41, ty48, ty49, ty50, ty51, ty52, ty60, ty68, ty74, ty75, ty83, ty104, ty105, ty109, ty111, ty117, ty118, ty119, ty120, ty124, ty125, ty126, ty128, ty129, ty132, ty133, fun p h => by simp at h⟩
theorem lyOk : ∀ p ∈ lyT, laysOf Tryd.prog p.1 = some p.2 := by
  simp only [lyT, List.forall_mem_cons]
  exact ⟨ly7, ly8, ly13, ly14, ly22, ly38, ly39, ly48, ly49, ly51, ly52, ly74, ly75, ly104, ly105, ly118, ly119, ly125, ly126, fun p h => by simp at h⟩
/-- The environment of this program, with what its package variables hold. -/
def tyL (t : Nat) : Option TI := look tyT t
def lyL (t : Nat) : Option (List (Nat × Nat)) := look lyT t
def En (P : Program) (g : Nat → Option (List PV)) : Env := ⟨P, g, tyL, lyL⟩
theorem EnOk (g : Nat → Option (List PV)) : (En Tryd.prog g).Ok := ⟨fun t i h => tyOk (t, i) (look_mem h), fun t i h => lyOk (t, i) (look_mem h)⟩
theorem T2 {P : Program} {g : Nat → Option (List PV)} : (En P g).T 2 = some ⟨.int .i64, 1, 8, [.int .i64 0]⟩ := rfl
theorem T3 {P : Program} {g : Nat → Option (List PV)} : (En P g).T 3 = some ⟨.int .i64, 1, 8, [.int .i64 0]⟩ := rfl
theorem T4 {P : Program} {g : Nat → Option (List PV)} : (En P g).T 4 = some ⟨.bool, 1, 1, [.bool false]⟩ := rfl
theorem T5 {P : Program} {g : Nat → Option (List PV)} : (En P g).T 5 = some ⟨.int .u8, 1, 1, [.int .u8 0]⟩ := rfl
theorem T6 {P : Program} {g : Nat → Option (List PV)} : (En P g).T 6 = some ⟨.int .u8, 1, 1, [.int .u8 0]⟩ := rfl
theorem T7 {P : Program} {g : Nat → Option (List PV)} : (En P g).T 7 = some ⟨.str, 4, 24, [.int .i64 0, .int .i64 0, .bool false, .int .u8 0]⟩ := rfl
theorem T8 {P : Program} {g : Nat → Option (List PV)} : (En P g).T 8 = some ⟨.str, 4, 24, [.int .i64 0, .int .i64 0, .bool false, .int .u8 0]⟩ := rfl
theorem T9 {P : Program} {g : Nat → Option (List PV)} : (En P g).T 9 = some ⟨.strg, 1, 16, [.str ⟨#[]⟩]⟩ := rfl
theorem T10 {P : Program} {g : Nat → Option (List PV)} : (En P g).T 10 = some ⟨.strg, 1, 16, [.str ⟨#[]⟩]⟩ := rfl
theorem T11 {P : Program} {g : Nat → Option (List PV)} : (En P g).T 11 = some ⟨.strg, 1, 16, [.str ⟨#[]⟩]⟩ := rfl
theorem T12 {P : Program} {g : Nat → Option (List PV)} : (En P g).T 12 = some ⟨.int .u64, 1, 8, [.int .u64 0]⟩ := rfl
theorem T13 {P : Program} {g : Nat → Option (List PV)} : (En P g).T 13 = some ⟨.str, 2, 24, [.str ⟨#[]⟩, .int .u64 0]⟩ := rfl
theorem T14 {P : Program} {g : Nat → Option (List PV)} : (En P g).T 14 = some ⟨.str, 2, 24, [.str ⟨#[]⟩, .int .u64 0]⟩ := rfl
theorem T21 {P : Program} {g : Nat → Option (List PV)} : (En P g).T 21 = some ⟨.int .i32, 1, 4, [.int .i32 0]⟩ := rfl
theorem T22 {P : Program} {g : Nat → Option (List PV)} : (En P g).T 22 = some ⟨.str, 2, 32, [.str ⟨#[]⟩, .str ⟨#[]⟩]⟩ := rfl
theorem T23 {P : Program} {g : Nat → Option (List PV)} : (En P g).T 23 = some ⟨.slc 22, 1, 24, [.nil]⟩ := rfl
theorem T25 {P : Program} {g : Nat → Option (List PV)} : (En P g).T 25 = some ⟨.arr 32 5, 32, 32, List.replicate 32 (.int .u8 0)⟩ := rfl
theorem T27 {P : Program} {g : Nat → Option (List PV)} : (En P g).T 27 = some ⟨.slc 5, 1, 24, [.nil]⟩ := rfl
theorem T29 {P : Program} {g : Nat → Option (List PV)} : (En P g).T 29 = some ⟨.int .u32, 1, 4, [.int .u32 0]⟩ := rfl
theorem T32 {P : Program} {g : Nat → Option (List PV)} : (En P g).T 32 = some ⟨.int .i64, 1, 8, [.int .i64 0]⟩ := rfl
theorem T36 {P : Program} {g : Nat → Option (List PV)} : (En P g).T 36 = some ⟨.arr 8 29, 8, 32, [.int .u32 0, .int .u32 0, .int .u32 0, .int .u32 0, .int .u32 0, .int .u32 0, .int .u32 0, .int .u32 0]⟩ := rfl
theorem T37 {P : Program} {g : Nat → Option (List PV)} : (En P g).T 37 = some ⟨.arr 64 5, 64, 64, List.replicate 64 (.int .u8 0)⟩ := rfl
theorem T38 {P : Program} {g : Nat → Option (List PV)} : (En P g).T 38 = some ⟨.str, 74, 112, [.int .u32 0, .int .u32 0, .int .u32 0, .int .u32 0, .int .u32 0, .int .u32 0, .int .u32 0, .int .u32 0, .int .u8 0, .int .u8 0, .int .u8 0, .int .u8 0, .int .u8 0, .int .u8 0, .int .u8 0, .int .u8 0, .int .u8 0, .int .u8 0, .int .u8 0, .int .u8 0, .int .u8 0, .int .u8 0, .int .u8 0, .int .u8 0, .int .u8 0, .int .u8 0, .int .u8 0, .int .u8 0, .int .u8 0, .int .u8 0, .int .u8 0, .int .u8 0, .int .u8 0, .int .u8 0, .int .u8 0, .int .u8 0, .int .u8 0, .int .u8 0, .int .u8 0, .int .u8 0, .int .u8 0, .int .u8 0, .int .u8 0, .int .u8 0, .int .u8 0, .int .u8 0, .int .u8 0, .int .u8 0, .int .u8 0, .int .u8 0, .int .u8 0, .int .u8 0, .int .u8 0, .int .u8 0, .int .u8 0, .int .u8 0, .int .u8 0, .int .u8 0, .int .u8 0, .int .u8 0, .int .u8 0, .int .u8 0, .int .u8 0, .int .u8 0, .int .u8 0, .int .u8 0, .int .u8 0, .int .u8 0, .int .u8 0, .int .u8 0, .int .u8 0, .int .u8 0, .int .i64 0, .int .i64 0]⟩ := rfl
theorem T39 {P : Program} {g : Nat → Option (List PV)} : (En P g).T 39 = some ⟨.str, 74, 112, [.int .u32 0, .int .u32 0, .int .u32 0, .int .u32 0, .int .u32 0, .int .u32 0, .int .u32 0, .int .u32 0, .int .u8 0, .int .u8 0, .int .u8 0, .int .u8 0, .int .u8 0, .int .u8 0, .int .u8 0, .int .u8 0, .int .u8 0, .int .u8 0, .int .u8 0, .int .u8 0, .int .u8 0, .int .u8 0, .int .u8 0, .int .u8 0, .int .u8 0, .int .u8 0, .int .u8 0, .int .u8 0, .int .u8 0, .int .u8 0, .int .u8 0, .int .u8 0, .int .u8 0, .int .u8 0, .int .u8 0, .int .u8 0, .int .u8 0, .int .u8 0, .int .u8 0, .int .u8 0, .int .u8 0, .int .u8 0, .int .u8 0, .int .u8 0, .int .u8 0, .int .u8 0, .int .u8 0, .int .u8 0, .int .u8 0, .int .u8 0, .int .u8 0, .int .u8 0, .int .u8 0, .int .u8 0, .int .u8 0, .int .u8 0, .int .u8 0, .int .u8 0, .int .u8 0, .int .u8 0, .int .u8 0, .int .u8 0, .int .u8 0, .int .u8 0, .int .u8 0, .int .u8 0, .int .u8 0, .int .u8 0, .int .u8 0, .int .u8 0, .int .u8 0, .int .u8 0, .int .i64 0, .int .i64 0]⟩ := rfl
theorem T41 {P : Program} {g : Nat → Option (List PV)} : (En P g).T 41 = some ⟨.slc 27, 1, 24, [.nil]⟩ := rfl
theorem T48 {P : Program} {g : Nat → Option (List PV)} : (En P g).T 48 = some ⟨.str, 4, 40, [.int .i64 0, .int .i64 0, .int .i64 0, .str ⟨#[]⟩]⟩ := rfl
theorem T49 {P : Program} {g : Nat → Option (List PV)} : (En P g).T 49 = some ⟨.str, 4, 40, [.int .i64 0, .int .i64 0, .int .i64 0, .str ⟨#[]⟩]⟩ := rfl
theorem T50 {P : Program} {g : Nat → Option (List PV)} : (En P g).T 50 = some ⟨.int .u64, 1, 8, [.int .u64 0]⟩ := rfl
theorem T51 {P : Program} {g : Nat → Option (List PV)} : (En P g).T 51 = some ⟨.str, 4, 40, [.int .i64 0, .int .i64 0, .int .u64 0, .str ⟨#[]⟩]⟩ := rfl
theorem T52 {P : Program} {g : Nat → Option (List PV)} : (En P g).T 52 = some ⟨.str, 4, 40, [.int .i64 0, .int .i64 0, .int .u64 0, .str ⟨#[]⟩]⟩ := rfl
theorem T60 {P : Program} {g : Nat → Option (List PV)} : (En P g).T 60 = some ⟨.slc 49, 1, 24, [.nil]⟩ := rfl
theorem T68 {P : Program} {g : Nat → Option (List PV)} : (En P g).T 68 = some ⟨.slc 75, 1, 24, [.nil]⟩ := rfl
theorem T74 {P : Program} {g : Nat → Option (List PV)} : (En P g).T 74 = some ⟨.str, 3, 56, [.bool false, .nil, .nil]⟩ := rfl
theorem T75 {P : Program} {g : Nat → Option (List PV)} : (En P g).T 75 = some ⟨.str, 3, 56, [.bool false, .nil, .nil]⟩ := rfl
theorem T83 {P : Program} {g : Nat → Option (List PV)} : (En P g).T 83 = some ⟨.int .u64, 1, 8, [.int .u64 0]⟩ := rfl
theorem T104 {P : Program} {g : Nat → Option (List PV)} : (En P g).T 104 = some ⟨.str, 2, 32, [.int .i64 0, .nil]⟩ := rfl
theorem T105 {P : Program} {g : Nat → Option (List PV)} : (En P g).T 105 = some ⟨.str, 2, 32, [.int .i64 0, .nil]⟩ := rfl
theorem T109 {P : Program} {g : Nat → Option (List PV)} : (En P g).T 109 = some ⟨.flt, 1, 8, [.flt .f64 0]⟩ := rfl
theorem T111 {P : Program} {g : Nat → Option (List PV)} : (En P g).T 111 = some ⟨.arr 64 29, 64, 256, List.replicate 64 (.int .u32 0)⟩ := rfl
theorem T117 {P : Program} {g : Nat → Option (List PV)} : (En P g).T 117 = some ⟨.arr 256 5, 256, 256, List.replicate 256 (.int .u8 0)⟩ := rfl
theorem T118 {P : Program} {g : Nat → Option (List PV)} : (En P g).T 118 = some ⟨.str, 2, 2, [.int .u8 0, .int .u8 0]⟩ := rfl
theorem T119 {P : Program} {g : Nat → Option (List PV)} : (En P g).T 119 = some ⟨.str, 2, 2, [.int .u8 0, .int .u8 0]⟩ := rfl
theorem T120 {P : Program} {g : Nat → Option (List PV)} : (En P g).T 120 = some ⟨.arr 16 119, 32, 32, List.replicate 32 (.int .u8 0)⟩ := rfl
theorem T124 {P : Program} {g : Nat → Option (List PV)} : (En P g).T 124 = some ⟨.arr 0 16, 0, 0, []⟩ := rfl
theorem T125 {P : Program} {g : Nat → Option (List PV)} : (En P g).T 125 = some ⟨.str, 0, 0, []⟩ := rfl
theorem T126 {P : Program} {g : Nat → Option (List PV)} : (En P g).T 126 = some ⟨.str, 0, 0, []⟩ := rfl
theorem T128 {P : Program} {g : Nat → Option (List PV)} : (En P g).T 128 = some ⟨.int .u8, 1, 1, [.int .u8 0]⟩ := rfl
theorem T129 {P : Program} {g : Nat → Option (List PV)} : (En P g).T 129 = some ⟨.int .u8, 1, 1, [.int .u8 0]⟩ := rfl
theorem T132 {P : Program} {g : Nat → Option (List PV)} : (En P g).T 132 = some ⟨.int .i32, 1, 4, [.int .i32 0]⟩ := rfl
theorem T133 {P : Program} {g : Nat → Option (List PV)} : (En P g).T 133 = some ⟨.int .i32, 1, 4, [.int .i32 0]⟩ := rfl
theorem L7 {P : Program} {g : Nat → Option (List PV)} : (En P g).L 7 = some [(0, 1), (1, 1), (2, 1), (3, 1)] := rfl
theorem L8 {P : Program} {g : Nat → Option (List PV)} : (En P g).L 8 = some [(0, 1), (1, 1), (2, 1), (3, 1)] := rfl
theorem L13 {P : Program} {g : Nat → Option (List PV)} : (En P g).L 13 = some [(0, 1), (1, 1)] := rfl
theorem L14 {P : Program} {g : Nat → Option (List PV)} : (En P g).L 14 = some [(0, 1), (1, 1)] := rfl
theorem L22 {P : Program} {g : Nat → Option (List PV)} : (En P g).L 22 = some [(0, 1), (1, 1)] := rfl
theorem L38 {P : Program} {g : Nat → Option (List PV)} : (En P g).L 38 = some [(0, 8), (8, 64), (72, 1), (73, 1)] := rfl
theorem L39 {P : Program} {g : Nat → Option (List PV)} : (En P g).L 39 = some [(0, 8), (8, 64), (72, 1), (73, 1)] := rfl
theorem L48 {P : Program} {g : Nat → Option (List PV)} : (En P g).L 48 = some [(0, 1), (1, 1), (2, 1), (3, 1)] := rfl
theorem L49 {P : Program} {g : Nat → Option (List PV)} : (En P g).L 49 = some [(0, 1), (1, 1), (2, 1), (3, 1)] := rfl
theorem L51 {P : Program} {g : Nat → Option (List PV)} : (En P g).L 51 = some [(0, 1), (1, 1), (2, 1), (3, 1)] := rfl
theorem L52 {P : Program} {g : Nat → Option (List PV)} : (En P g).L 52 = some [(0, 1), (1, 1), (2, 1), (3, 1)] := rfl
theorem L74 {P : Program} {g : Nat → Option (List PV)} : (En P g).L 74 = some [(0, 1), (1, 1), (2, 1)] := rfl
theorem L75 {P : Program} {g : Nat → Option (List PV)} : (En P g).L 75 = some [(0, 1), (1, 1), (2, 1)] := rfl
theorem L104 {P : Program} {g : Nat → Option (List PV)} : (En P g).L 104 = some [(0, 1), (1, 1)] := rfl
theorem L105 {P : Program} {g : Nat → Option (List PV)} : (En P g).L 105 = some [(0, 1), (1, 1)] := rfl
theorem L118 {P : Program} {g : Nat → Option (List PV)} : (En P g).L 118 = some [(0, 1), (1, 1)] := rfl
theorem L119 {P : Program} {g : Nat → Option (List PV)} : (En P g).L 119 = some [(0, 1), (1, 1)] := rfl
theorem L125 {P : Program} {g : Nat → Option (List PV)} : (En P g).L 125 = some [(0, 0)] := rfl
theorem L126 {P : Program} {g : Nat → Option (List PV)} : (En P g).L 126 = some [(0, 0)] := rfl
theorem mixed : Tryd.prog.follows .mixedOrders = true := by kernel_rfl
end Go.Proofs.YtcbdhdblchmofaaDoor.Vm
