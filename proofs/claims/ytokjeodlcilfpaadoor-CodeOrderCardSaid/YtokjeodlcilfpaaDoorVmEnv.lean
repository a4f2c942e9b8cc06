/- The types of this program as the value machine reads them, each checked by the kernel. Conditions: none. -/
import Derived.Test.YtokjeodlcilfpaaDoorProg
import Derived.Test.YtokjeodlcilfpaaDoorVm4
namespace Go.Proofs.YtokjeodlcilfpaaDoor.Vm
open Go Go.RowKit
set_option maxRecDepth 100000
theorem ty1 : tiOf Tryd.prog 1 = some ⟨.oth, 1, 8, [.nilF]⟩ := by kernel_rfl
theorem ty2 : tiOf Tryd.prog 2 = some ⟨.int .i64, 1, 8, [.int .i64 0]⟩ := by kernel_rfl
theorem ty3 : tiOf Tryd.prog 3 = some ⟨.int .i64, 1, 8, [.int .i64 0]⟩ := by kernel_rfl
theorem ty4 : tiOf Tryd.prog 4 = some ⟨.bool, 1, 1, [.bool false]⟩ := by kernel_rfl
theorem ty5 : tiOf Tryd.prog 5 = some ⟨.int .u8, 1, 1, [.int .u8 0]⟩ := by kernel_rfl
theorem ty6 : tiOf Tryd.prog 6 = some ⟨.int .u8, 1, 1, [.int .u8 0]⟩ := by kernel_rfl
theorem ty7 : tiOf Tryd.prog 7 = some ⟨.str, 4, 24, [.int .i64 0, .int .i64 0, .bool false, .int .u8 0]⟩ := by kernel_rfl
theorem ty8 : tiOf Tryd.prog 8 = some ⟨.str, 4, 24, [.int .i64 0, .int .i64 0, .bool false, .int .u8 0]⟩ := by kernel_rfl
theorem ty9 : tiOf Tryd.prog 9 = some ⟨.strg, 1, 16, [.str ⟨#[]⟩]⟩ := by kernel_rfl
theorem ty10 : tiOf Tryd.prog 10 = some ⟨.strg, 1, 16, [.str ⟨#[]⟩]⟩ := by kernel_rfl
theorem ty11 : tiOf Tryd.prog 11 = some ⟨.strg, 1, 16, [.str ⟨#[]⟩]⟩ := by kernel_rfl
theorem ty12 : tiOf Tryd.prog 12 = some ⟨.int .u64, 1, 8, [.int .u64 0]⟩ := by kernel_rfl
theorem ty13 : tiOf Tryd.prog 13 = some ⟨.str, 2, 24, [.str ⟨#[]⟩, .int .u64 0]⟩ := by kernel_rfl
theorem ty14 : tiOf Tryd.prog 14 = some ⟨.str, 2, 24, [.str ⟨#[]⟩, .int .u64 0]⟩ := by kernel_rfl
theorem ty21 : tiOf Tryd.prog 21 = some ⟨.int .i32, 1, 4, [.int .i32 0]⟩ := by kernel_rfl
theorem ty22 : tiOf Tryd.prog 22 = some ⟨.slc 49, 1, 24, [.nil]⟩ := by kernel_rfl
theorem ty23 : tiOf Tryd.prog 23 = some ⟨.slc 41, 1, 24, [.nil]⟩ := by kernel_rfl
theorem ty24 : tiOf Tryd.prog 24 = some ⟨.oth, 1, 8, [.nilF]⟩ := by kernel_rfl
theorem ty25 : tiOf Tryd.prog 25 = some ⟨.slc 4, 1, 24, [.nil]⟩ := by kernel_rfl
theorem ty26 : tiOf Tryd.prog 26 = some ⟨.oth, 1, 8, [.nilF]⟩ := by kernel_rfl
theorem ty27 : tiOf Tryd.prog 27 = some ⟨.slc 33, 1, 24, [.nil]⟩ := by kernel_rfl
theorem ty28 : tiOf Tryd.prog 28 = some ⟨.str, 2, 48, [.nil, .nil]⟩ := by kernel_rfl
theorem ty29 : tiOf Tryd.prog 29 = some ⟨.str, 2, 48, [.nil, .nil]⟩ := by kernel_rfl
theorem ty30 : tiOf Tryd.prog 30 = some ⟨.int .i64, 1, 8, [.int .i64 0]⟩ := by kernel_rfl
theorem ty32 : tiOf Tryd.prog 32 = some ⟨.oth, 1, 8, [.nilF]⟩ := by kernel_rfl
theorem ty33 : tiOf Tryd.prog 33 = some ⟨.slc 5, 1, 24, [.nil]⟩ := by kernel_rfl
theorem ty34 : tiOf Tryd.prog 34 = some ⟨.oth, 1, 8, [.nilF]⟩ := by kernel_rfl
theorem ty35 : tiOf Tryd.prog 35 = some ⟨.oth, 1, 8, [.nilF]⟩ := by kernel_rfl
theorem ty36 : tiOf Tryd.prog 36 = some ⟨.oth, 1, 8, [.nilF]⟩ := by kernel_rfl
theorem ty38 : tiOf Tryd.prog 38 = some ⟨.oth, 1, 8, [.nilF]⟩ := by kernel_rfl
theorem ty39 : tiOf Tryd.prog 39 = some ⟨.oth, 1, 8, [.nilF]⟩ := by kernel_rfl
theorem ty40 : tiOf Tryd.prog 40 = some ⟨.str, 3, 56, [.bool false, .nil, .nil]⟩ := by kernel_rfl
theorem ty41 : tiOf Tryd.prog 41 = some ⟨.str, 3, 56, [.bool false, .nil, .nil]⟩ := by kernel_rfl
theorem ty42 : tiOf Tryd.prog 42 = some ⟨.oth, 1, 8, [.nilF]⟩ := by kernel_rfl
theorem ty43 : tiOf Tryd.prog 43 = some ⟨.oth, 1, 8, [.nilF]⟩ := by kernel_rfl
theorem ty45 : tiOf Tryd.prog 45 = some ⟨.oth, 1, 8, [.nilF]⟩ := by kernel_rfl
theorem ty46 : tiOf Tryd.prog 46 = some ⟨.oth, 1, 8, [.nilF]⟩ := by kernel_rfl
theorem ty47 : tiOf Tryd.prog 47 = some ⟨.oth, 1, 8, [.nilF]⟩ := by kernel_rfl
theorem ty48 : tiOf Tryd.prog 48 = some ⟨.str, 4, 40, [.int .i64 0, .int .i64 0, .int .i64 0, .str ⟨#[]⟩]⟩ := by kernel_rfl
theorem ty49 : tiOf Tryd.prog 49 = some ⟨.str, 4, 40, [.int .i64 0, .int .i64 0, .int .i64 0, .str ⟨#[]⟩]⟩ := by kernel_rfl
theorem ty50 : tiOf Tryd.prog 50 = some ⟨.oth, 1, 8, [.nilF]⟩ := by kernel_rfl
theorem ty51 : tiOf Tryd.prog 51 = some ⟨.slc 29, 1, 24, [.nil]⟩ := by kernel_rfl
theorem ty52 : tiOf Tryd.prog 52 = some ⟨.oth, 1, 8, [.nilF]⟩ := by kernel_rfl
theorem ty53 : tiOf Tryd.prog 53 = some ⟨.slc 69, 1, 24, [.nil]⟩ := by kernel_rfl
theorem ty54 : tiOf Tryd.prog 54 = some ⟨.oth, 1, 8, [.nilF]⟩ := by kernel_rfl
theorem ty55 : tiOf Tryd.prog 55 = some ⟨.oth, 1, 8, [.nilF]⟩ := by kernel_rfl
theorem ty57 : tiOf Tryd.prog 57 = some ⟨.oth, 1, 8, [.nilF]⟩ := by kernel_rfl
theorem ty58 : tiOf Tryd.prog 58 = some ⟨.oth, 1, 8, [.nilF]⟩ := by kernel_rfl
theorem ty59 : tiOf Tryd.prog 59 = some ⟨.oth, 1, 8, [.nilF]⟩ := by kernel_rfl
theorem ty60 : tiOf Tryd.prog 60 = some ⟨.oth, 1, 8, [.nilF]⟩ := by kernel_rfl
theorem ty61 : tiOf Tryd.prog 61 = some ⟨.oth, 1, 8, [.nilF]⟩ := by kernel_rfl
theorem ty62 : tiOf Tryd.prog 62 = some ⟨.oth, 1, 8, [.nilF]⟩ := by kernel_rfl
theorem ty64 : tiOf Tryd.prog 64 = some ⟨.oth, 1, 8, [.nilF]⟩ := by kernel_rfl
theorem ty66 : tiOf Tryd.prog 66 = some ⟨.oth, 1, 8, [.nilF]⟩ := by kernel_rfl
theorem ty67 : tiOf Tryd.prog 67 = some ⟨.int .u64, 1, 8, [.int .u64 0]⟩ := by kernel_rfl
theorem ty68 : tiOf Tryd.prog 68 = some ⟨.str, 4, 40, [.int .i64 0, .int .i64 0, .int .u64 0, .str ⟨#[]⟩]⟩ := by kernel_rfl
theorem ty69 : tiOf Tryd.prog 69 = some ⟨.str, 4, 40, [.int .i64 0, .int .i64 0, .int .u64 0, .str ⟨#[]⟩]⟩ := by kernel_rfl
theorem ty70 : tiOf Tryd.prog 70 = some ⟨.oth, 1, 8, [.nilF]⟩ := by kernel_rfl
theorem ty71 : tiOf Tryd.prog 71 = some ⟨.oth, 1, 8, [.nilF]⟩ := by kernel_rfl
theorem ty72 : tiOf Tryd.prog 72 = some ⟨.oth, 1, 8, [.nilF]⟩ := by kernel_rfl
theorem ty73 : tiOf Tryd.prog 73 = some ⟨.oth, 1, 8, [.nilF]⟩ := by kernel_rfl
theorem ty74 : tiOf Tryd.prog 74 = some ⟨.oth, 1, 8, [.nilF]⟩ := by kernel_rfl
theorem ty75 : tiOf Tryd.prog 75 = some ⟨.oth, 1, 8, [.nilF]⟩ := by kernel_rfl
theorem ty77 : tiOf Tryd.prog 77 = some ⟨.oth, 1, 8, [.nilF]⟩ := by kernel_rfl
theorem ty79 : tiOf Tryd.prog 79 = some ⟨.int .u64, 1, 8, [.int .u64 0]⟩ := by kernel_rfl
theorem ty80 : tiOf Tryd.prog 80 = some ⟨.oth, 1, 8, [.nilF]⟩ := by kernel_rfl
theorem ty81 : tiOf Tryd.prog 81 = some ⟨.oth, 1, 8, [.nilF]⟩ := by kernel_rfl
theorem ty82 : tiOf Tryd.prog 82 = some ⟨.oth, 1, 8, [.nilF]⟩ := by kernel_rfl
theorem ty83 : tiOf Tryd.prog 83 = some ⟨.oth, 1, 8, [.nilF]⟩ := by kernel_rfl
theorem ty85 : tiOf Tryd.prog 85 = some ⟨.oth, 1, 8, [.nilF]⟩ := by kernel_rfl
theorem ty86 : tiOf Tryd.prog 86 = some ⟨.oth, 1, 8, [.nilF]⟩ := by kernel_rfl
theorem ty87 : tiOf Tryd.prog 87 = some ⟨.oth, 1, 8, [.nilF]⟩ := by kernel_rfl
theorem ty88 : tiOf Tryd.prog 88 = some ⟨.oth, 1, 8, [.nilF]⟩ := by kernel_rfl
theorem ty89 : tiOf Tryd.prog 89 = some ⟨.oth, 1, 8, [.nilF]⟩ := by kernel_rfl
theorem ty90 : tiOf Tryd.prog 90 = some ⟨.oth, 1, 8, [.nilF]⟩ := by kernel_rfl
theorem ty91 : tiOf Tryd.prog 91 = some ⟨.flt, 1, 8, [.flt .f64 0]⟩ := by kernel_rfl
theorem ty92 : tiOf Tryd.prog 92 = some ⟨.oth, 1, 8, [.nilF]⟩ := by kernel_rfl
theorem ty93 : tiOf Tryd.prog 93 = some ⟨.oth, 1, 8, [.nilF]⟩ := by kernel_rfl
theorem ty94 : tiOf Tryd.prog 94 = some ⟨.oth, 1, 8, [.nilF]⟩ := by kernel_rfl
theorem ty95 : tiOf Tryd.prog 95 = some ⟨.oth, 1, 8, [.nilF]⟩ := by kernel_rfl
theorem ty96 : tiOf Tryd.prog 96 = some ⟨.oth, 1, 8, [.nilF]⟩ := by kernel_rfl
theorem ty99 : tiOf Tryd.prog 99 = some ⟨.oth, 1, 8, [.nilF]⟩ := by kernel_rfl
theorem ty100 : tiOf Tryd.prog 100 = some ⟨.oth, 1, 8, [.nilF]⟩ := by kernel_rfl
theorem ty101 : tiOf Tryd.prog 101 = some ⟨.oth, 1, 8, [.nilF]⟩ := by kernel_rfl
theorem ty102 : tiOf Tryd.prog 102 = some ⟨.oth, 1, 8, [.nilF]⟩ := by kernel_rfl
theorem ty103 : tiOf Tryd.prog 103 = some ⟨.oth, 1, 8, [.nilF]⟩ := by kernel_rfl
theorem ty104 : tiOf Tryd.prog 104 = some ⟨.oth, 1, 8, [.nilF]⟩ := by kernel_rfl
theorem ty105 : tiOf Tryd.prog 105 = some ⟨.arr 256 5, 256, 256, List.replicate 256 (.int .u8 0)⟩ := by kernel_rfl
theorem ty106 : tiOf Tryd.prog 106 = some ⟨.str, 2, 2, [.int .u8 0, .int .u8 0]⟩ := by kernel_rfl
theorem ty107 : tiOf Tryd.prog 107 = some ⟨.str, 2, 2, [.int .u8 0, .int .u8 0]⟩ := by kernel_rfl
theorem ty108 : tiOf Tryd.prog 108 = some ⟨.arr 16 107, 32, 32, List.replicate 32 (.int .u8 0)⟩ := by kernel_rfl
theorem ty109 : tiOf Tryd.prog 109 = some ⟨.oth, 1, 8, [.nilF]⟩ := by kernel_rfl
theorem ty110 : tiOf Tryd.prog 110 = some ⟨.oth, 1, 8, [.nilF]⟩ := by kernel_rfl
theorem ty111 : tiOf Tryd.prog 111 = some ⟨.arr 32 5, 32, 32, List.replicate 32 (.int .u8 0)⟩ := by kernel_rfl
theorem ty112 : tiOf Tryd.prog 112 = some ⟨.oth, 1, 8, [.nilF]⟩ := by kernel_rfl
theorem ty113 : tiOf Tryd.prog 113 = some ⟨.oth, 1, 8, [.nilF]⟩ := by kernel_rfl
theorem ty114 : tiOf Tryd.prog 114 = some ⟨.oth, 1, 8, [.nilF]⟩ := by kernel_rfl
theorem ty115 : tiOf Tryd.prog 115 = some ⟨.oth, 1, 8, [.nilF]⟩ := by kernel_rfl
theorem ty116 : tiOf Tryd.prog 116 = some ⟨.int .u32, 1, 4, [.int .u32 0]⟩ := by kernel_rfl
theorem ty117 : tiOf Tryd.prog 117 = some ⟨.arr 8 116, 8, 32, [.int .u32 0, .int .u32 0, .int .u32 0, .int .u32 0, .int .u32 0, .int .u32 0, .int .u32 0, .int .u32 0]⟩ := by kernel_rfl
theorem ty118 : tiOf Tryd.prog 118 = some ⟨.arr 64 5, 64, 64, List.replicate 64 (.int .u8 0)⟩ := by kernel_rfl
theorem ty119 : tiOf Tryd.prog 119 = some ⟨.str, 74, 112, [.int .u32 0, .int .u32 0, .int .u32 0, .int .u32 0, .int .u32 0, .int .u32 0, .int .u32 0, .int .u32 0, .int .u8 0, .int .u8 0, .int .u8 0, .int .u8 0, .int .u8 0, .int .u8 0, .int .u8 0, .int .u8 0, .int .u8 0, .int .u8 0, .int .u8 0, .int .u8 0, .int .u8 0, .int .u8 0, .int .u8 0, .int .u8 0, .int .u8 0, .int .u8 0, .int .u8 0, .int .u8 0, .int .u8 0, .int .u8 0, .int .u8 0, .int .u8 0, .int .u8 0, .int .u8 0, .int .u8 0, .int .u8 0, .int .u8 0, .int .u8 0, .int .u8 0, .int .u8 0, .int .u8 0, .int .u8 0, .int .u8 0, .int .u8 0, .int .u8 0, .int .u8 0, .int .u8 0, .int .u8 0, .int .u8 0, .int .u8 0, .int .u8 0, .int .u8 0, .int .u8 0, .int .u8 0, .int .u8 0, .int .u8 0, .int .u8 0, .int .u8 0, .int .u8 0, .int .u8 0, .int .u8 0, .int .u8 0, .int .u8 0, .int .u8 0, .int .u8 0, .int .u8 0, .int .u8 0, .int .u8 0, .int .u8 0, .int .u8 0, .int .u8 0, .int .u8 0, .int .i64 0, .int .i64 0]⟩ := by kernel_rfl
theorem ty120 : tiOf Tryd.prog 120 = some ⟨.str, 74, 112, [.int .u32 0, .int .u32 0, .int .u32 0, .int .u32 0, .int .u32 0, .int .u32 0, .int .u32 0, .int .u32 0, .int .u8 0, .int .u8 0, .int .u8 0, .int .u8 0, .int .u8 0, .int .u8 0, .int .u8 0, .int .u8 0, .int .u8 0, .int .u8 0, .int .u8 0, .int .u8 0, .int .u8 0, .int .u8 0, .int .u8 0, .int .u8 0, .int .u8 0, .int .u8 0, .int .u8 0, .int .u8 0, .int .u8 0, .int .u8 0, .int .u8 0, .int .u8 0, .int .u8 0, .int .u8 0, .int .u8 0, .int .u8 0, .int .u8 0, .int .u8 0, .int .u8 0, .int .u8 0, .int .u8 0, .int .u8 0, .int .u8 0, .int .u8 0, .int .u8 0, .int .u8 0, .int .u8 0, .int .u8 0, .int .u8 0, .int .u8 0, .int .u8 0, .int .u8 0, .int .u8 0, .int .u8 0, .int .u8 0, .int .u8 0, .int .u8 0, .int .u8 0, .int .u8 0, .int .u8 0, .int .u8 0, .int .u8 0, .int .u8 0, .int .u8 0, .int .u8 0, .int .u8 0, .int .u8 0, .int .u8 0, .int .u8 0, .int .u8 0, .int .u8 0, .int .u8 0, .int .i64 0, .int .i64 0]⟩ := by kernel_rfl
theorem ty121 : tiOf Tryd.prog 121 = some ⟨.oth, 1, 8, [.nilF]⟩ := by kernel_rfl
theorem ty122 : tiOf Tryd.prog 122 = some ⟨.oth, 1, 8, [.nilF]⟩ := by kernel_rfl
theorem ty123 : tiOf Tryd.prog 123 = some ⟨.oth, 1, 8, [.nilF]⟩ := by kernel_rfl
theorem ty124 : tiOf Tryd.prog 124 = some ⟨.oth, 1, 8, [.nilF]⟩ := by kernel_rfl
theorem ty125 : tiOf Tryd.prog 125 = some ⟨.arr 64 116, 64, 256, List.replicate 64 (.int .u32 0)⟩ := by kernel_rfl
theorem ty126 : tiOf Tryd.prog 126 = some ⟨.oth, 1, 8, [.nilF]⟩ := by kernel_rfl
theorem ty127 : tiOf Tryd.prog 127 = some ⟨.oth, 1, 8, [.nilF]⟩ := by kernel_rfl
theorem ty130 : tiOf Tryd.prog 130 = some ⟨.arr 0 16, 0, 0, []⟩ := by kernel_rfl
theorem ty131 : tiOf Tryd.prog 131 = some ⟨.str, 0, 0, []⟩ := by kernel_rfl
theorem ty132 : tiOf Tryd.prog 132 = some ⟨.str, 0, 0, []⟩ := by kernel_rfl
theorem ty133 : tiOf Tryd.prog 133 = some ⟨.oth, 1, 8, [.nilF]⟩ := by kernel_rfl
theorem ty134 : tiOf Tryd.prog 134 = some ⟨.int .u8, 1, 1, [.int .u8 0]⟩ := by kernel_rfl
theorem ty135 : tiOf Tryd.prog 135 = some ⟨.int .u8, 1, 1, [.int .u8 0]⟩ := by kernel_rfl
theorem ty136 : tiOf Tryd.prog 136 = some ⟨.oth, 1, 8, [.nilF]⟩ := by kernel_rfl
theorem ty138 : tiOf Tryd.prog 138 = some ⟨.int .i32, 1, 4, [.int .i32 0]⟩ := by kernel_rfl
theorem ty139 : tiOf Tryd.prog 139 = some ⟨.int .i32, 1, 4, [.int .i32 0]⟩ := by kernel_rfl
theorem ly7 : laysOf Tryd.prog 7 = some [(0, 1), (1, 1), (2, 1), (3, 1)] := by kernel_rfl
theorem ly8 : laysOf Tryd.prog 8 = some [(0, 1), (1, 1), (2, 1), (3, 1)] := by kernel_rfl
theorem ly13 : laysOf Tryd.prog 13 = some [(0, 1), (1, 1)] := by kernel_rfl
theorem ly14 : laysOf Tryd.prog 14 = some [(0, 1), (1, 1)] := by kernel_rfl
theorem ly28 : laysOf Tryd.prog 28 = some [(0, 1), (1, 1)] := by kernel_rfl
theorem ly29 : laysOf Tryd.prog 29 = some [(0, 1), (1, 1)] := by kernel_rfl
theorem ly40 : laysOf Tryd.prog 40 = some [(0, 1), (1, 1), (2, 1)] := by kernel_rfl
theorem ly41 : laysOf Tryd.prog 41 = some [(0, 1), (1, 1), (2, 1)] := by kernel_rfl
theorem ly48 : laysOf Tryd.prog 48 = some [(0, 1), (1, 1), (2, 1), (3, 1)] := by kernel_rfl
theorem ly49 : laysOf Tryd.prog 49 = some [(0, 1), (1, 1), (2, 1), (3, 1)] := by kernel_rfl
theorem ly68 : laysOf Tryd.prog 68 = some [(0, 1), (1, 1), (2, 1), (3, 1)] := by kernel_rfl
theorem ly69 : laysOf Tryd.prog 69 = some [(0, 1), (1, 1), (2, 1), (3, 1)] := by kernel_rfl
theorem ly106 : laysOf Tryd.prog 106 = some [(0, 1), (1, 1)] := by kernel_rfl
theorem ly107 : laysOf Tryd.prog 107 = some [(0, 1), (1, 1)] := by kernel_rfl
theorem ly119 : laysOf Tryd.prog 119 = some [(0, 8), (8, 64), (72, 1), (73, 1)] := by kernel_rfl
theorem ly120 : laysOf Tryd.prog 120 = some [(0, 8), (8, 64), (72, 1), (73, 1)] := by kernel_rfl
theorem ly131 : laysOf Tryd.prog 131 = some [(0, 0)] := by kernel_rfl
theorem ly132 : laysOf Tryd.prog 132 = some [(0, 0)] := by kernel_rfl
def tyT : List (Nat × TI) := [(1, ⟨.oth, 1, 8, [.nilF]⟩), (2, ⟨.int .i64, 1, 8, [.int .i64 0]⟩), (3, ⟨.int .i64, 1, 8, [.int .i64 0]⟩), (4, ⟨.bool, 1, 1, [.bool false]⟩), (5, ⟨.int .u8, 1, 1, [.int .u8 0]⟩), (6, ⟨.int .u8, 1, 1, [.int .u8 0]⟩), (7, ⟨.str, 4, 24, [.int .i64 0, .int .i64 0, .bool false, .int .u8 0]⟩), (8, ⟨.str, 4, 24, [.int .i64 0, .int .i64 0, .bool false, .int .u8 0]⟩), (9, ⟨.strg, 1, 16, [.str ⟨#[]⟩]⟩), (10, ⟨.strg, 1, 16, [.str ⟨#[]⟩]⟩), (11, ⟨.strg, 1, 16, [.str ⟨#[]⟩]⟩), (12, ⟨.int .u64, 1, 8, [.int .u64 0]⟩), (13, ⟨.str, 2, 24, [.str ⟨#[]⟩, .int .u64 0]⟩), (14, ⟨.str, 2, 24, [.str ⟨#[]⟩, .int .u64 0]⟩), (21, ⟨.int .i32, 1, 4, [.int .i32 0]⟩), (22, ⟨.slc 49, 1, 24, [.nil]⟩), (23, ⟨.slc 41, 1, 24, [.nil]⟩), (24, ⟨.oth, 1, 8, [.nilF]⟩), (25, ⟨.slc 4, 1, 24, [.nil]⟩), (26, ⟨.oth, 1, 8, [.nilF]⟩), (27, ⟨.slc 33, 1, 24, [.nil]⟩), (28, ⟨.str, 2, 48, [.nil, .nil]⟩), (29, ⟨.str, 2, 48, [.nil, .nil]⟩), (30, ⟨.int .i64, 1, 8, [.int .i64 0]⟩), (32, ⟨.oth, 1, 8, [.nilF]⟩), (33, ⟨.slc 5, 1, 24, [.nil]⟩), (34, ⟨.oth, 1, 8, [.nilF]⟩), (35, ⟨.oth, 1, 8, [.nilF]⟩), (36, ⟨.oth, 1, 8, [.nilF]⟩), (38, ⟨.oth, 1, 8, [.nilF]⟩), (39, ⟨.oth, 1, 8, [.nilF]⟩), (40, ⟨.str, 3, 56, [.bool false, .nil, .nil]⟩), (41, ⟨.str, 3, 56, [.bool false, .nil, .nil]⟩), (42, ⟨.oth, 1, 8, [.nilF]⟩), (43, ⟨.oth, 1, 8, [.nilF]⟩), (45, ⟨.oth, 1, 8, [.nilF]⟩), (46, ⟨.oth, 1, 8, [.nilF]⟩), (47, ⟨.oth, 1, 8, [.nilF]⟩), (48, ⟨.str, 4, 40, [.int .i64 0, .int .i64 0, .int .i64 0, .str ⟨#[]⟩]⟩), (49, ⟨.str, 4, 40, [.int .i64 0, .int .i64 0, .int .i64 0, .str ⟨#[]⟩]⟩), (50, ⟨.oth, 1, 8, [.nilF]⟩), (51, ⟨.slc 29, 1, 24, [.nil]⟩), (52, ⟨.oth, 1, 8, [.nilF]⟩), (53, ⟨.slc 69, 1, 24, [.nil]⟩), (54, ⟨.oth, 1, 8, [.nilF]⟩), (55, ⟨.oth, 1, 8, [.nilF]⟩), (57, ⟨.oth, 1, 8, [.nilF]⟩), (58, ⟨.oth, 1, 8, [.nilF]⟩), (59, ⟨.oth, 1, 8, [.nilF]⟩), (60, ⟨.oth, 1, 8, [.nilF]⟩), (61, ⟨.oth, 1, 8, [.nilF]⟩), (62, ⟨.oth, 1, 8, [.nilF]⟩), (64, ⟨.oth, 1, 8, [.nilF]⟩), (66, ⟨.oth, 1, 8, [.nilF]⟩), (67, ⟨.int .u64, 1, 8, [.int .u64 0]⟩), (68, ⟨.str, 4, 40, [.int .i64 0, .int .i64 0, .int .u64 0, .str ⟨#[]⟩]⟩), (69, ⟨.str, 4, 40, [.int .i64 0, .int .i64 0, .int .u64 0, .str ⟨#[]⟩]⟩), (70, ⟨.oth, 1, 8, [.nilF]⟩), (71, ⟨.oth, 1, 8, [.nilF]⟩), (72, ⟨.oth, 1, 8, [.nilF]⟩), (73, ⟨.oth, 1, 8, [.nilF]⟩), (74, ⟨.oth, 1, 8, [.nilF]⟩), (75, ⟨.oth, 1, 8, [.nilF]⟩), (77, ⟨.oth, 1, 8, [.nilF]⟩), (79, ⟨.int .u64, 1, 8, [.int .u64 0]⟩), (80, ⟨.oth, 1, 8, [.nilF]⟩), (81, ⟨.oth, 1, 8, [.nilF]⟩), (82, ⟨.oth, 1, 8, [.nilF]⟩), (83, ⟨.oth, 1, 8, [.nilF]⟩), (85, ⟨.oth, 1, 8, [.nilF]⟩), (86, ⟨.oth, 1, 8, [.nilF]⟩), (87, ⟨.oth, 1, 8, [.nilF]⟩), (88, ⟨.oth, 1, 8, [.nilF]⟩), (89, ⟨.oth, 1, 8, [.nilF]⟩), (90, ⟨.oth, 1, 8, [.nilF]⟩), (91, ⟨.flt, 1, 8, [.flt .f64 0]⟩), (92, ⟨.oth, 1, 8, [.nilF]⟩), (93, ⟨.oth, 1, 8, [.nilF]⟩), (94, ⟨.oth, 1, 8, [.nilF]⟩), (95, ⟨.oth, 1, 8, [.nilF]⟩), (96, ⟨.oth, 1, 8, [.nilF]⟩), (99, ⟨.oth, 1, 8, [.nilF]⟩), (100, ⟨.oth, 1, 8, [.nilF]⟩), (101, ⟨.oth, 1, 8, [.nilF]⟩), (102, ⟨.oth, 1, 8, [.nilF]⟩), (103, ⟨.oth, 1, 8, [.nilF]⟩), (104, ⟨.oth, 1, 8, [.nilF]⟩), (105, ⟨.arr 256 5, 256, 256, List.replicate 256 (.int .u8 0)⟩), (106, ⟨.str, 2, 2, [.int .u8 0, .int .u8 0]⟩), (107, ⟨.str, 2, 2, [.int .u8 0, .int .u8 0]⟩), (108, ⟨.arr 16 107, 32, 32, List.replicate 32 (.int .u8 0)⟩), (109, ⟨.oth, 1, 8, [.nilF]⟩), (110, ⟨.oth, 1, 8, [.nilF]⟩), (111, ⟨.arr 32 5, 32, 32, List.replicate 32 (.int .u8 0)⟩), (112, ⟨.oth, 1, 8, [.nilF]⟩), (113, ⟨.oth, 1, 8, [.nilF]⟩), (114, ⟨.oth, 1, 8, [.nilF]⟩), (115, ⟨.oth, 1, 8, [.nilF]⟩), (116, ⟨.int .u32, 1, 4, [.int .u32 0]⟩), (117, ⟨.arr 8 116, 8, 32, [.int .u32 0, .int .u32 0, .int .u32 0, .int .u32 0, .int .u32 0, .int .u32 0, .int .u32 0, .int .u32 0]⟩), (118, ⟨.arr 64 5, 64, 64, List.replicate 64 (.int .u8 0)⟩), (119, ⟨.str, 74, 112, [.int .u32 0, .int .u32 0, .int .u32 0, .int .u32 0, .int .u32 0, .int .u32 0, .int .u32 0, .int .u32 0, .int .u8 0, .int .u8 0, .int .u8 0, .int .u8 0, .int .u8 0, .int .u8 0, .int .u8 0, .int .u8 0, .int .u8 0, .int .u8 0, .int .u8 0, .int .u8 0, .int .u8 0, .int .u8 0, .int .u8 0, .int .u8 0, .int .u8 0, .int .u8 0, .int .u8 0, .int .u8 0, .int .u8 0, .int .u8 0, .int .u8 0, .int .u8 0, .int .u8 0, .int .u8 0, .int .u8 0, .int .u8 0, .int .u8 0, .int .u8 0, .int .u8 0, .int .u8 0, .int .u8 0, .int .u8 0, .int .u8 0, .int .u8 0, .int .u8 0, .int .u8 0, .int .u8 0, .int .u8 0, .int .u8 0, .int .u8 0, .int .u8 0, .int .u8 0, .int .u8 0, .int .u8 0, .int .u8 0, .int .u8 0, .int .u8 0, .int .u8 0, .int .u8 0, .int .u8 0, .int .u8 0, .int .u8 0, .int .u8 0, .int .u8 0, .int .u8 0, .int .u8 0, .int .u8 0, .int .u8 0, .int .u8 0, .int .u8 0, .int .u8 0, .int .u8 0, .int .i64 0, .int .i64 0]⟩), (120, ⟨.str, 74, 112, [.int .u32 0, .int .u32 0, .int .u32 0, .int .u32 0, .int .u32 0, .int .u32 0, .int .u32 0, .int .u32 0, .int .u8 0, .int .u8 0, .int .u8 0, .int .u8 0, .int .u8 0, .int .u8 0, .int .u8 0, .int .u8 0, .int .u8 0, .int .u8 0, .int .u8 0, .int .u8 0, .int .u8 0, .int .u8 0, .int .u8 0, .int .u8 0, .int .u8 0, .int .u8 0, .int .u8 0, .int .u8 0, .int .u8 0, .int .u8 0, .int .u8 0, .int .u8 0, .int .u8 0, .int .u8 0, .int .u8 0, .int .u8 0, .int .u8 0, .int .u8 0, .int .u8 0, .int .u8 0, .int .u8 0, .int .u8 0, .int .u8 0, .int .u8 0, .int .u8 0, .int .u8 0, .int .u8 0, .int .u8 0, .int .u8 0, .int .u8 0, .int .u8 0, .int .u8 0, .int .u8 0, .int .u8 0, .int .u8 0, .int .u8 0, .int .u8 0, .int .u8 0, .int .u8 0, .int .u8 0, .int .u8 0, .int .u8 0, .int .u8 0, .int .u8 0, .int .u8 0, .int .u8 0, .int .u8 0, .int .u8 0, .int .u8 0, .int .u8 0, .int .u8 0, .int .u8 0, .int .i64 0, .int .i64 0]⟩), (121, ⟨.oth, 1, 8, [.nilF]⟩), (122, ⟨.oth, 1, 8, [.nilF]⟩), (123, ⟨.oth, 1, 8, [.nilF]⟩), (124, ⟨.oth, 1, 8, [.nilF]⟩), (125, ⟨.arr 64 116, 64, 256, List.replicate 64 (.int .u32 0)⟩), (126, ⟨.oth, 1, 8, [.nilF]⟩), (127, ⟨.oth, 1, 8, [.nilF]⟩), (130, ⟨.arr 0 16, 0, 0, []⟩), (131, ⟨.str, 0, 0, []⟩), (132, ⟨.str, 0, 0, []⟩), (133, ⟨.oth, 1, 8, [.nilF]⟩), (134, ⟨.int .u8, 1, 1, [.int .u8 0]⟩), (135, ⟨.int .u8, 1, 1, [.int .u8 0]⟩), (136, ⟨.oth, 1, 8, [.nilF]⟩), (138, ⟨.int .i32, 1, 4, [.int .i32 0]⟩), (139, ⟨.int .i32, 1, 4, [.int .i32 0]⟩)]
def lyT : List (Nat × List (Nat × Nat)) := [(7, [(0, 1), (1, 1), (2, 1), (3, 1)]), (8, [(0, 1), (1, 1), (2, 1), (3, 1)]), (13, [(0, 1), (1, 1)]), (14, [(0, 1), (1, 1)]), (28, [(0, 1), (1, 1)]), (29, [(0, 1), (1, 1)]), (40, [(0, 1), (1, 1), (2, 1)]), (41, [(0, 1), (1, 1), (2, 1)]), (48, [(0, 1), (1, 1), (2, 1), (3, 1)]), (49, [(0, 1), (1, 1), (2, 1), (3, 1)]), (68, [(0, 1), (1, 1), (2, 1), (3, 1)]), (69, [(0, 1), (1, 1), (2, 1), (3, 1)]), (106, [(0, 1), (1, 1)]), (107, [(0, 1), (1, 1)]), (119, [(0, 8), (8, 64), (72, 1), (73, 1)]), (120, [(0, 8), (8, 64), (72, 1), (73, 1)]), (131, [(0, 0)]), (132, [(0, 0)])]
theorem look_mem {α : Type} : ∀ {l : List (Nat × α)} {i : Nat} {x : α}, look l i = some x → (i, x) ∈ l
  | [], i, x, h => by simp [look] at h
  | (k, y) :: l, i, x, h => by
    rw [look_cons] at h
    by_cases c : k = i
    · rw [if_pos c] at h
      obtain rfl := Option.some.inj h
      subst c
      simp
    · rw [if_neg c] at h
      exact List.mem_cons_of_mem _ (look_mem h)
theorem tyOk : ∀ p ∈ tyT, tiOf Tryd.prog p.1 = some p.2 := by
  simp only [tyT, List.forall_mem_cons]
  exact ⟨ty1, ty2, ty3, ty4, ty5, ty6, ty7, ty8, ty9, ty10, ty11, ty12, ty13, ty14, ty21, ty22, ty23, ty24, ty25, ty26, ty27, ty28, ty29, ty30, ty32, ty33, ty34, ty35, ty36, ty38, ty39, ty40, ty41, ty42, ty43, ty45, ty46, ty47, ty48, ty49, ty50, ty51, ty52, ty53, ty54, ty55, ty57, ty58, ty59, ty60, ty61, ty62, ty64, ty66, ty67, ty68, ty69, ty70, ty71, ty72, ty73, ty74, ty75, ty77, ty79, ty80, ty81, ty82, ty83, ty85, ty86, ty87, ty88, ty89, ty90, ty91, ty92, ty93, ty94, ty95, ty96, ty99, ty100, ty101, ty102, ty103, ty104, ty105, ty106, ty107, ty108, ty109, ty110, ty111, ty112, ty113, ty114, ty115, ty116, ty117, ty118, ty119, ty120, ty121, ty122, ty123, ty124, ty125, ty126, ty127, ty130, ty131, ty132, ty133, ty134, ty135, ty136, ty138, ty139, fun p h => by simp at h⟩
theorem lyOk : ∀ p ∈ lyT, laysOf Tryd.prog p.1 = some p.2 := by
  simp only [lyT, List.forall_mem_cons]
  exact ⟨ly7, ly8, ly13, ly14, ly28, ly29, ly40, ly41, ly48, ly49, ly68, ly69, ly106, ly107, ly119, ly120, ly131, ly132, fun p h => by simp at h⟩
/-- The environment of this program, with what its package variables hold. -/
def tyL (t : Nat) : Option TI := look tyT t
def lyL (t : Nat) : Option (List (Nat × Nat)) := look lyT t
/-- A walk to which nothing is lent; to which those boxes are lent. -/
def EnL (P : Program) (g : Nat → Option (List PV)) (ln : List Nat) : Env := ⟨P, ⟨g, ln⟩, tyL, lyL⟩
abbrev En (P : Program) (g : Nat → Option (List PV)) : Env := EnL P g []
theorem EnLOk (g : Nat → Option (List PV)) (ln : List Nat) : (EnL Tryd.prog g ln).Ok := ⟨fun t i h => tyOk (t, i) (look_mem h), fun t i h => lyOk (t, i) (look_mem h)⟩
theorem EnOk (g : Nat → Option (List PV)) : (En Tryd.prog g).Ok := EnLOk g []
theorem T1 {P : Program} {g : Nat → Option (List PV)} {ln : List Nat} : (EnL P g ln).T 1 = some ⟨.oth, 1, 8, [.nilF]⟩ := rfl
theorem T2 {P : Program} {g : Nat → Option (List PV)} {ln : List Nat} : (EnL P g ln).T 2 = some ⟨.int .i64, 1, 8, [.int .i64 0]⟩ := rfl
theorem T3 {P : Program} {g : Nat → Option (List PV)} {ln : List Nat} : (EnL P g ln).T 3 = some ⟨.int .i64, 1, 8, [.int .i64 0]⟩ := rfl
theorem T4 {P : Program} {g : Nat → Option (List PV)} {ln : List Nat} : (EnL P g ln).T 4 = some ⟨.bool, 1, 1, [.bool false]⟩ := rfl
theorem T5 {P : Program} {g : Nat → Option (List PV)} {ln : List Nat} : (EnL P g ln).T 5 = some ⟨.int .u8, 1, 1, [.int .u8 0]⟩ := rfl
theorem T6 {P : Program} {g : Nat → Option (List PV)} {ln : List Nat} : (EnL P g ln).T 6 = some ⟨.int .u8, 1, 1, [.int .u8 0]⟩ := rfl
theorem T7 {P : Program} {g : Nat → Option (List PV)} {ln : List Nat} : (EnL P g ln).T 7 = some ⟨.str, 4, 24, [.int .i64 0, .int .i64 0, .bool false, .int .u8 0]⟩ := rfl
theorem T8 {P : Program} {g : Nat → Option (List PV)} {ln : List Nat} : (EnL P g ln).T 8 = some ⟨.str, 4, 24, [.int .i64 0, .int .i64 0, .bool false, .int .u8 0]⟩ := rfl
theorem T9 {P : Program} {g : Nat → Option (List PV)} {ln : List Nat} : (EnL P g ln).T 9 = some ⟨.strg, 1, 16, [.str ⟨#[]⟩]⟩ := rfl
theorem T10 {P : Program} {g : Nat → Option (List PV)} {ln : List Nat} : (EnL P g ln).T 10 = some ⟨.strg, 1, 16, [.str ⟨#[]⟩]⟩ := rfl
theorem T11 {P : Program} {g : Nat → Option (List PV)} {ln : List Nat} : (EnL P g ln).T 11 = some ⟨.strg, 1, 16, [.str ⟨#[]⟩]⟩ := rfl
theorem T12 {P : Program} {g : Nat → Option (List PV)} {ln : List Nat} : (EnL P g ln).T 12 = some ⟨.int .u64, 1, 8, [.int .u64 0]⟩ := rfl
theorem T13 {P : Program} {g : Nat → Option (List PV)} {ln : List Nat} : (EnL P g ln).T 13 = some ⟨.str, 2, 24, [.str ⟨#[]⟩, .int .u64 0]⟩ := rfl
theorem T14 {P : Program} {g : Nat → Option (List PV)} {ln : List Nat} : (EnL P g ln).T 14 = some ⟨.str, 2, 24, [.str ⟨#[]⟩, .int .u64 0]⟩ := rfl
theorem T21 {P : Program} {g : Nat → Option (List PV)} {ln : List Nat} : (EnL P g ln).T 21 = some ⟨.int .i32, 1, 4, [.int .i32 0]⟩ := rfl
theorem T22 {P : Program} {g : Nat → Option (List PV)} {ln : List Nat} : (EnL P g ln).T 22 = some ⟨.slc 49, 1, 24, [.nil]⟩ := rfl
theorem T23 {P : Program} {g : Nat → Option (List PV)} {ln : List Nat} : (EnL P g ln).T 23 = some ⟨.slc 41, 1, 24, [.nil]⟩ := rfl
theorem T24 {P : Program} {g : Nat → Option (List PV)} {ln : List Nat} : (EnL P g ln).T 24 = some ⟨.oth, 1, 8, [.nilF]⟩ := rfl
theorem T25 {P : Program} {g : Nat → Option (List PV)} {ln : List Nat} : (EnL P g ln).T 25 = some ⟨.slc 4, 1, 24, [.nil]⟩ := rfl
theorem T26 {P : Program} {g : Nat → Option (List PV)} {ln : List Nat} : (EnL P g ln).T 26 = some ⟨.oth, 1, 8, [.nilF]⟩ := rfl
theorem T27 {P : Program} {g : Nat → Option (List PV)} {ln : List Nat} : (EnL P g ln).T 27 = some ⟨.slc 33, 1, 24, [.nil]⟩ := rfl
theorem T28 {P : Program} {g : Nat → Option (List PV)} {ln : List Nat} : (EnL P g ln).T 28 = some ⟨.str, 2, 48, [.nil, .nil]⟩ := rfl
theorem T29 {P : Program} {g : Nat → Option (List PV)} {ln : List Nat} : (EnL P g ln).T 29 = some ⟨.str, 2, 48, [.nil, .nil]⟩ := rfl
theorem T30 {P : Program} {g : Nat → Option (List PV)} {ln : List Nat} : (EnL P g ln).T 30 = some ⟨.int .i64, 1, 8, [.int .i64 0]⟩ := rfl
theorem T32 {P : Program} {g : Nat → Option (List PV)} {ln : List Nat} : (EnL P g ln).T 32 = some ⟨.oth, 1, 8, [.nilF]⟩ := rfl
theorem T33 {P : Program} {g : Nat → Option (List PV)} {ln : List Nat} : (EnL P g ln).T 33 = some ⟨.slc 5, 1, 24, [.nil]⟩ := rfl
theorem T34 {P : Program} {g : Nat → Option (List PV)} {ln : List Nat} : (EnL P g ln).T 34 = some ⟨.oth, 1, 8, [.nilF]⟩ := rfl
theorem T35 {P : Program} {g : Nat → Option (List PV)} {ln : List Nat} : (EnL P g ln).T 35 = some ⟨.oth, 1, 8, [.nilF]⟩ := rfl
theorem T36 {P : Program} {g : Nat → Option (List PV)} {ln : List Nat} : (EnL P g ln).T 36 = some ⟨.oth, 1, 8, [.nilF]⟩ := rfl
theorem T38 {P : Program} {g : Nat → Option (List PV)} {ln : List Nat} : (EnL P g ln).T 38 = some ⟨.oth, 1, 8, [.nilF]⟩ := rfl
theorem T39 {P : Program} {g : Nat → Option (List PV)} {ln : List Nat} : (EnL P g ln).T 39 = some ⟨.oth, 1, 8, [.nilF]⟩ := rfl
theorem T40 {P : Program} {g : Nat → Option (List PV)} {ln : List Nat} : (EnL P g ln).T 40 = some ⟨.str, 3, 56, [.bool false, .nil, .nil]⟩ := rfl
theorem T41 {P : Program} {g : Nat → Option (List PV)} {ln : List Nat} : (EnL P g ln).T 41 = some ⟨.str, 3, 56, [.bool false, .nil, .nil]⟩ := rfl
theorem T42 {P : Program} {g : Nat → Option (List PV)} {ln : List Nat} : (EnL P g ln).T 42 = some ⟨.oth, 1, 8, [.nilF]⟩ := rfl
theorem T43 {P : Program} {g : Nat → Option (List PV)} {ln : List Nat} : (EnL P g ln).T 43 = some ⟨.oth, 1, 8, [.nilF]⟩ := rfl
theorem T45 {P : Program} {g : Nat → Option (List PV)} {ln : List Nat} : (EnL P g ln).T 45 = some ⟨.oth, 1, 8, [.nilF]⟩ := rfl
theorem T46 {P : Program} {g : Nat → Option (List PV)} {ln : List Nat} : (EnL P g ln).T 46 = some ⟨.oth, 1, 8, [.nilF]⟩ := rfl
theorem T47 {P : Program} {g : Nat → Option (List PV)} {ln : List Nat} : (EnL P g ln).T 47 = some ⟨.oth, 1, 8, [.nilF]⟩ := rfl
theorem T48 {P : Program} {g : Nat → Option (List PV)} {ln : List Nat} : (EnL P g ln).T 48 = some ⟨.str, 4, 40, [.int .i64 0, .int .i64 0, .int .i64 0, .str ⟨#[]⟩]⟩ := rfl
theorem T49 {P : Program} {g : Nat → Option (List PV)} {ln : List Nat} : (EnL P g ln).T 49 = some ⟨.str, 4, 40, [.int .i64 0, .int .i64 0, .int .i64 0, .str ⟨#[]⟩]⟩ := rfl
theorem T50 {P : Program} {g : Nat → Option (List PV)} {ln : List Nat} : (EnL P g ln).T 50 = some ⟨.oth, 1, 8, [.nilF]⟩ := rfl
theorem T51 {P : Program} {g : Nat → Option (List PV)} {ln : List Nat} : (EnL P g ln).T 51 = some ⟨.slc 29, 1, 24, [.nil]⟩ := rfl
theorem T52 {P : Program} {g : Nat → Option (List PV)} {ln : List Nat} : (EnL P g ln).T 52 = some ⟨.oth, 1, 8, [.nilF]⟩ := rfl
theorem T53 {P : Program} {g : Nat → Option (List PV)} {ln : List Nat} : (EnL P g ln).T 53 = some ⟨.slc 69, 1, 24, [.nil]⟩ := rfl
theorem T54 {P : Program} {g : Nat → Option (List PV)} {ln : List Nat} : (EnL P g ln).T 54 = some ⟨.oth, 1, 8, [.nilF]⟩ := rfl
theorem T55 {P : Program} {g : Nat → Option (List PV)} {ln : List Nat} : (EnL P g ln).T 55 = some ⟨.oth, 1, 8, [.nilF]⟩ := rfl
theorem T57 {P : Program} {g : Nat → Option (List PV)} {ln : List Nat} : (EnL P g ln).T 57 = some ⟨.oth, 1, 8, [.nilF]⟩ := rfl
theorem T58 {P : Program} {g : Nat → Option (List PV)} {ln : List Nat} : (EnL P g ln).T 58 = some ⟨.oth, 1, 8, [.nilF]⟩ := rfl
theorem T59 {P : Program} {g : Nat → Option (List PV)} {ln : List Nat} : (EnL P g ln).T 59 = some ⟨.oth, 1, 8, [.nilF]⟩ := rfl
theorem T60 {P : Program} {g : Nat → Option (List PV)} {ln : List Nat} : (EnL P g ln).T 60 = some ⟨.oth, 1, 8, [.nilF]⟩ := rfl
theorem T61 {P : Program} {g : Nat → Option (List PV)} {ln : List Nat} : (EnL P g ln).T 61 = some ⟨.oth, 1, 8, [.nilF]⟩ := rfl
theorem T62 {P : Program} {g : Nat → Option (List PV)} {ln : List Nat} : (EnL P g ln).T 62 = some ⟨.oth, 1, 8, [.nilF]⟩ := rfl
theorem T64 {P : Program} {g : Nat → Option (List PV)} {ln : List Nat} : (EnL P g ln).T 64 = some ⟨.oth, 1, 8, [.nilF]⟩ := rfl
theorem T66 {P : Program} {g : Nat → Option (List PV)} {ln : List Nat} : (EnL P g ln).T 66 = some ⟨.oth, 1, 8, [.nilF]⟩ := rfl
theorem T67 {P : Program} {g : Nat → Option (List PV)} {ln : List Nat} : (EnL P g ln).T 67 = some ⟨.int .u64, 1, 8, [.int .u64 0]⟩ := rfl
theorem T68 {P : Program} {g : Nat → Option (List PV)} {ln : List Nat} : (EnL P g ln).T 68 = some ⟨.str, 4, 40, [.int .i64 0, .int .i64 0, .int .u64 0, .str ⟨#[]⟩]⟩ := rfl
theorem T69 {P : Program} {g : Nat → Option (List PV)} {ln : List Nat} : (EnL P g ln).T 69 = some ⟨.str, 4, 40, [.int .i64 0, .int .i64 0, .int .u64 0, .str ⟨#[]⟩]⟩ := rfl
theorem T70 {P : Program} {g : Nat → Option (List PV)} {ln : List Nat} : (EnL P g ln).T 70 = some ⟨.oth, 1, 8, [.nilF]⟩ := rfl
theorem T71 {P : Program} {g : Nat → Option (List PV)} {ln : List Nat} : (EnL P g ln).T 71 = some ⟨.oth, 1, 8, [.nilF]⟩ := rfl
theorem T72 {P : Program} {g : Nat → Option (List PV)} {ln : List Nat} : (EnL P g ln).T 72 = some ⟨.oth, 1, 8, [.nilF]⟩ := rfl
theorem T73 {P : Program} {g : Nat → Option (List PV)} {ln : List Nat} : (EnL P g ln).T 73 = some ⟨.oth, 1, 8, [.nilF]⟩ := rfl
theorem T74 {P : Program} {g : Nat → Option (List PV)} {ln : List Nat} : (EnL P g ln).T 74 = some ⟨.oth, 1, 8, [.nilF]⟩ := rfl
theorem T75 {P : Program} {g : Nat → Option (List PV)} {ln : List Nat} : (EnL P g ln).T 75 = some ⟨.oth, 1, 8, [.nilF]⟩ := rfl
theorem T77 {P : Program} {g : Nat → Option (List PV)} {ln : List Nat} : (EnL P g ln).T 77 = some ⟨.oth, 1, 8, [.nilF]⟩ := rfl
theorem T79 {P : Program} {g : Nat → Option (List PV)} {ln : List Nat} : (EnL P g ln).T 79 = some ⟨.int .u64, 1, 8, [.int .u64 0]⟩ := rfl
theorem T80 {P : Program} {g : Nat → Option (List PV)} {ln : List Nat} : (EnL P g ln).T 80 = some ⟨.oth, 1, 8, [.nilF]⟩ := rfl
theorem T81 {P : Program} {g : Nat → Option (List PV)} {ln : List Nat} : (EnL P g ln).T 81 = some ⟨.oth, 1, 8, [.nilF]⟩ := rfl
theorem T82 {P : Program} {g : Nat → Option (List PV)} {ln : List Nat} : (EnL P g ln).T 82 = some ⟨.oth, 1, 8, [.nilF]⟩ := rfl
theorem T83 {P : Program} {g : Nat → Option (List PV)} {ln : List Nat} : (EnL P g ln).T 83 = some ⟨.oth, 1, 8, [.nilF]⟩ := rfl
theorem T85 {P : Program} {g : Nat → Option (List PV)} {ln : List Nat} : (EnL P g ln).T 85 = some ⟨.oth, 1, 8, [.nilF]⟩ := rfl
theorem T86 {P : Program} {g : Nat → Option (List PV)} {ln : List Nat} : (EnL P g ln).T 86 = some ⟨.oth, 1, 8, [.nilF]⟩ := rfl
theorem T87 {P : Program} {g : Nat → Option (List PV)} {ln : List Nat} : (EnL P g ln).T 87 = some ⟨.oth, 1, 8, [.nilF]⟩ := rfl
theorem T88 {P : Program} {g : Nat → Option (List PV)} {ln : List Nat} : (EnL P g ln).T 88 = some ⟨.oth, 1, 8, [.nilF]⟩ := rfl
theorem T89 {P : Program} {g : Nat → Option (List PV)} {ln : List Nat} : (EnL P g ln).T 89 = some ⟨.oth, 1, 8, [.nilF]⟩ := rfl
theorem T90 {P : Program} {g : Nat → Option (List PV)} {ln : List Nat} : (EnL P g ln).T 90 = some ⟨.oth, 1, 8, [.nilF]⟩ := rfl
theorem T91 {P : Program} {g : Nat → Option (List PV)} {ln : List Nat} : (EnL P g ln).T 91 = some ⟨.flt, 1, 8, [.flt .f64 0]⟩ := rfl
theorem T92 {P : Program} {g : Nat → Option (List PV)} {ln : List Nat} : (EnL P g ln).T 92 = some ⟨.oth, 1, 8, [.nilF]⟩ := rfl
theorem T93 {P : Program} {g : Nat → Option (List PV)} {ln : List Nat} : (EnL P g ln).T 93 = some ⟨.oth, 1, 8, [.nilF]⟩ := rfl
theorem T94 {P : Program} {g : Nat → Option (List PV)} {ln : List Nat} : (EnL P g ln).T 94 = some ⟨.oth, 1, 8, [.nilF]⟩ := rfl
theorem T95 {P : Program} {g : Nat → Option (List PV)} {ln : List Nat} : (EnL P g ln).T 95 = some ⟨.oth, 1, 8, [.nilF]⟩ := rfl
theorem T96 {P : Program} {g : Nat → Option (List PV)} {ln : List Nat} : (EnL P g ln).T 96 = some ⟨.oth, 1, 8, [.nilF]⟩ := rfl
theorem T99 {P : Program} {g : Nat → Option (List PV)} {ln : List Nat} : (EnL P g ln).T 99 = some ⟨.oth, 1, 8, [.nilF]⟩ := rfl
theorem T100 {P : Program} {g : Nat → Option (List PV)} {ln : List Nat} : (EnL P g ln).T 100 = some ⟨.oth, 1, 8, [.nilF]⟩ := rfl
theorem T101 {P : Program} {g : Nat → Option (List PV)} {ln : List Nat} : (EnL P g ln).T 101 = some ⟨.oth, 1, 8, [.nilF]⟩ := rfl
theorem T102 {P : Program} {g : Nat → Option (List PV)} {ln : List Nat} : (EnL P g ln).T 102 = some ⟨.oth, 1, 8, [.nilF]⟩ := rfl
theorem T103 {P : Program} {g : Nat → Option (List PV)} {ln : List Nat} : (EnL P g ln).T 103 = some ⟨.oth, 1, 8, [.nilF]⟩ := rfl
theorem T104 {P : Program} {g : Nat → Option (List PV)} {ln : List Nat} : (EnL P g ln).T 104 = some ⟨.oth, 1, 8, [.nilF]⟩ := rfl
theorem T105 {P : Program} {g : Nat → Option (List PV)} {ln : List Nat} : (EnL P g ln).T 105 = some ⟨.arr 256 5, 256, 256, List.replicate 256 (.int .u8 0)⟩ := rfl
theorem T106 {P : Program} {g : Nat → Option (List PV)} {ln : List Nat} : (EnL P g ln).T 106 = some ⟨.str, 2, 2, [.int .u8 0, .int .u8 0]⟩ := rfl
theorem T107 {P : Program} {g : Nat → Option (List PV)} {ln : List Nat} : (EnL P g ln).T 107 = some ⟨.str, 2, 2, [.int .u8 0, .int .u8 0]⟩ := rfl
theorem T108 {P : Program} {g : Nat → Option (List PV)} {ln : List Nat} : (EnL P g ln).T 108 = some ⟨.arr 16 107, 32, 32, List.replicate 32 (.int .u8 0)⟩ := rfl
theorem T109 {P : Program} {g : Nat → Option (List PV)} {ln : List Nat} : (EnL P g ln).T 109 = some ⟨.oth, 1, 8, [.nilF]⟩ := rfl
theorem T110 {P : Program} {g : Nat → Option (List PV)} {ln : List Nat} : (EnL P g ln).T 110 = some ⟨.oth, 1, 8, [.nilF]⟩ := rfl
theorem T111 {P : Program} {g : Nat → Option (List PV)} {ln : List Nat} : (EnL P g ln).T 111 = some ⟨.arr 32 5, 32, 32, List.replicate 32 (.int .u8 0)⟩ := rfl
theorem T112 {P : Program} {g : Nat → Option (List PV)} {ln : List Nat} : (EnL P g ln).T 112 = some ⟨.oth, 1, 8, [.nilF]⟩ := rfl
theorem T113 {P : Program} {g : Nat → Option (List PV)} {ln : List Nat} : (EnL P g ln).T 113 = some ⟨.oth, 1, 8, [.nilF]⟩ := rfl
theorem T114 {P : Program} {g : Nat → Option (List PV)} {ln : List Nat} : (EnL P g ln).T 114 = some ⟨.oth, 1, 8, [.nilF]⟩ := rfl
theorem T115 {P : Program} {g : Nat → Option (List PV)} {ln : List Nat} : (EnL P g ln).T 115 = some ⟨.oth, 1, 8, [.nilF]⟩ := rfl
theorem T116 {P : Program} {g : Nat → Option (List PV)} {ln : List Nat} : (EnL P g ln).T 116 = some ⟨.int .u32, 1, 4, [.int .u32 0]⟩ := rfl
theorem T117 {P : Program} {g : Nat → Option (List PV)} {ln : List Nat} : (EnL P g ln).T 117 = some ⟨.arr 8 116, 8, 32, [.int .u32 0, .int .u32 0, .int .u32 0, .int .u32 0, .int .u32 0, .int .u32 0, .int .u32 0, .int .u32 0]⟩ := rfl
theorem T118 {P : Program} {g : Nat → Option (List PV)} {ln : List Nat} : (EnL P g ln).T 118 = some ⟨.arr 64 5, 64, 64, List.replicate 64 (.int .u8 0)⟩ := rfl
theorem T119 {P : Program} {g : Nat → Option (List PV)} {ln : List Nat} : (EnL P g ln).T 119 = some ⟨.str, 74, 112, [.int .u32 0, .int .u32 0, .int .u32 0, .int .u32 0, .int .u32 0, .int .u32 0, .int .u32 0, .int .u32 0, .int .u8 0, .int .u8 0, .int .u8 0, .int .u8 0, .int .u8 0, .int .u8 0, .int .u8 0, .int .u8 0, .int .u8 0, .int .u8 0, .int .u8 0, .int .u8 0, .int .u8 0, .int .u8 0, .int .u8 0, .int .u8 0, .int .u8 0, .int .u8 0, .int .u8 0, .int .u8 0, .int .u8 0, .int .u8 0, .int .u8 0, .int .u8 0, .int .u8 0, .int .u8 0, .int .u8 0, .int .u8 0, .int .u8 0, .int .u8 0, .int .u8 0, .int .u8 0, .int .u8 0, .int .u8 0, .int .u8 0, .int .u8 0, .int .u8 0, .int .u8 0, .int .u8 0, .int .u8 0, .int .u8 0, .int .u8 0, .int .u8 0, .int .u8 0, .int .u8 0, .int .u8 0, .int .u8 0, .int .u8 0, .int .u8 0, .int .u8 0, .int .u8 0, .int .u8 0, .int .u8 0, .int .u8 0, .int .u8 0, .int .u8 0, .int .u8 0, .int .u8 0, .int .u8 0, .int .u8 0, .int .u8 0, .int .u8 0, .int .u8 0, .int .u8 0, .int .i64 0, .int .i64 0]⟩ := rfl
theorem T120 {P : Program} {g : Nat → Option (List PV)} {ln : List Nat} : (EnL P g ln).T 120 = some ⟨.str, 74, 112, [.int .u32 0, .int .u32 0, .int .u32 0, .int .u32 0, .int .u32 0, .int .u32 0, .int .u32 0, .int .u32 0, .int .u8 0, .int .u8 0, .int .u8 0, .int .u8 0, .int .u8 0, .int .u8 0, .int .u8 0, .int .u8 0, .int .u8 0, .int .u8 0, .int .u8 0, .int .u8 0, .int .u8 0, .int .u8 0, .int .u8 0, .int .u8 0, .int .u8 0, .int .u8 0, .int .u8 0, .int .u8 0, .int .u8 0, .int .u8 0, .int .u8 0, .int .u8 0, .int .u8 0, .int .u8 0, .int .u8 0, .int .u8 0, .int .u8 0, .int .u8 0, .int .u8 0, .int .u8 0, .int .u8 0, .int .u8 0, .int .u8 0, .int .u8 0, .int .u8 0, .int .u8 0, .int .u8 0, .int .u8 0, .int .u8 0, .int .u8 0, .int .u8 0, .int .u8 0, .int .u8 0, .int .u8 0, .int .u8 0, .int .u8 0, .int .u8 0, .int .u8 0, .int .u8 0, .int .u8 0, .int .u8 0, .int .u8 0, .int .u8 0, .int .u8 0, .int .u8 0, .int .u8 0, .int .u8 0, .int .u8 0, .int .u8 0, .int .u8 0, .int .u8 0, .int .u8 0, .int .i64 0, .int .i64 0]⟩ := rfl
theorem T121 {P : Program} {g : Nat → Option (List PV)} {ln : List Nat} : (EnL P g ln).T 121 = some ⟨.oth, 1, 8, [.nilF]⟩ := rfl
theorem T122 {P : Program} {g : Nat → Option (List PV)} {ln : List Nat} : (EnL P g ln).T 122 = some ⟨.oth, 1, 8, [.nilF]⟩ := rfl
theorem T123 {P : Program} {g : Nat → Option (List PV)} {ln : List Nat} : (EnL P g ln).T 123 = some ⟨.oth, 1, 8, [.nilF]⟩ := rfl
theorem T124 {P : Program} {g : Nat → Option (List PV)} {ln : List Nat} : (EnL P g ln).T 124 = some ⟨.oth, 1, 8, [.nilF]⟩ := rfl
theorem T125 {P : Program} {g : Nat → Option (List PV)} {ln : List Nat} : (EnL P g ln).T 125 = some ⟨.arr 64 116, 64, 256, List.replicate 64 (.int .u32 0)⟩ := rfl
theorem T126 {P : Program} {g : Nat → Option (List PV)} {ln : List Nat} : (EnL P g ln).T 126 = some ⟨.oth, 1, 8, [.nilF]⟩ := rfl
theorem T127 {P : Program} {g : Nat → Option (List PV)} {ln : List Nat} : (EnL P g ln).T 127 = some ⟨.oth, 1, 8, [.nilF]⟩ := rfl
theorem T130 {P : Program} {g : Nat → Option (List PV)} {ln : List Nat} : (EnL P g ln).T 130 = some ⟨.arr 0 16, 0, 0, []⟩ := rfl
theorem T131 {P : Program} {g : Nat → Option (List PV)} {ln : List Nat} : (EnL P g ln).T 131 = some ⟨.str, 0, 0, []⟩ := rfl
theorem T132 {P : Program} {g : Nat → Option (List PV)} {ln : List Nat} : (EnL P g ln).T 132 = some ⟨.str, 0, 0, []⟩ := rfl
theorem T133 {P : Program} {g : Nat → Option (List PV)} {ln : List Nat} : (EnL P g ln).T 133 = some ⟨.oth, 1, 8, [.nilF]⟩ := rfl
theorem T134 {P : Program} {g : Nat → Option (List PV)} {ln : List Nat} : (EnL P g ln).T 134 = some ⟨.int .u8, 1, 1, [.int .u8 0]⟩ := rfl
theorem T135 {P : Program} {g : Nat → Option (List PV)} {ln : List Nat} : (EnL P g ln).T 135 = some ⟨.int .u8, 1, 1, [.int .u8 0]⟩ := rfl
theorem T136 {P : Program} {g : Nat → Option (List PV)} {ln : List Nat} : (EnL P g ln).T 136 = some ⟨.oth, 1, 8, [.nilF]⟩ := rfl
theorem T138 {P : Program} {g : Nat → Option (List PV)} {ln : List Nat} : (EnL P g ln).T 138 = some ⟨.int .i32, 1, 4, [.int .i32 0]⟩ := rfl
theorem T139 {P : Program} {g : Nat → Option (List PV)} {ln : List Nat} : (EnL P g ln).T 139 = some ⟨.int .i32, 1, 4, [.int .i32 0]⟩ := rfl
theorem L7 {P : Program} {g : Nat → Option (List PV)} {ln : List Nat} : (EnL P g ln).L 7 = some [(0, 1), (1, 1), (2, 1), (3, 1)] := rfl
theorem L8 {P : Program} {g : Nat → Option (List PV)} {ln : List Nat} : (EnL P g ln).L 8 = some [(0, 1), (1, 1), (2, 1), (3, 1)] := rfl
theorem L13 {P : Program} {g : Nat → Option (List PV)} {ln : List Nat} : (EnL P g ln).L 13 = some [(0, 1), (1, 1)] := rfl
theorem L14 {P : Program} {g : Nat → Option (List PV)} {ln : List Nat} : (EnL P g ln).L 14 = some [(0, 1), (1, 1)] := rfl
theorem L28 {P : Program} {g : Nat → Option (List PV)} {ln : List Nat} : (EnL P g ln).L 28 = some [(0, 1), (1, 1)] := rfl
theorem L29 {P : Program} {g : Nat → Option (List PV)} {ln : List Nat} : (EnL P g ln).L 29 = some [(0, 1), (1, 1)] := rfl
theorem L40 {P : Program} {g : Nat → Option (List PV)} {ln : List Nat} : (EnL P g ln).L 40 = some [(0, 1), (1, 1), (2, 1)] := rfl
theorem L41 {P : Program} {g : Nat → Option (List PV)} {ln : List Nat} : (EnL P g ln).L 41 = some [(0, 1), (1, 1), (2, 1)] := rfl
theorem L48 {P : Program} {g : Nat → Option (List PV)} {ln : List Nat} : (EnL P g ln).L 48 = some [(0, 1), (1, 1), (2, 1), (3, 1)] := rfl
theorem L49 {P : Program} {g : Nat → Option (List PV)} {ln : List Nat} : (EnL P g ln).L 49 = some [(0, 1), (1, 1), (2, 1), (3, 1)] := rfl
theorem L68 {P : Program} {g : Nat → Option (List PV)} {ln : List Nat} : (EnL P g ln).L 68 = some [(0, 1), (1, 1), (2, 1), (3, 1)] := rfl
theorem L69 {P : Program} {g : Nat → Option (List PV)} {ln : List Nat} : (EnL P g ln).L 69 = some [(0, 1), (1, 1), (2, 1), (3, 1)] := rfl
theorem L106 {P : Program} {g : Nat → Option (List PV)} {ln : List Nat} : (EnL P g ln).L 106 = some [(0, 1), (1, 1)] := rfl
theorem L107 {P : Program} {g : Nat → Option (List PV)} {ln : List Nat} : (EnL P g ln).L 107 = some [(0, 1), (1, 1)] := rfl
theorem L119 {P : Program} {g : Nat → Option (List PV)} {ln : List Nat} : (EnL P g ln).L 119 = some [(0, 8), (8, 64), (72, 1), (73, 1)] := rfl
theorem L120 {P : Program} {g : Nat → Option (List PV)} {ln : List Nat} : (EnL P g ln).L 120 = some [(0, 8), (8, 64), (72, 1), (73, 1)] := rfl
theorem L131 {P : Program} {g : Nat → Option (List PV)} {ln : List Nat} : (EnL P g ln).L 131 = some [(0, 0)] := rfl
theorem L132 {P : Program} {g : Nat → Option (List PV)} {ln : List Nat} : (EnL P g ln).L 132 = some [(0, 0)] := rfl
theorem mixed : Tryd.prog.follows .mixedOrders = true := by kernel_rfl
end Go.Proofs.YtokjeodlcilfpaaDoor.Vm
