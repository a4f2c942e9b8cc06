/- The types of this program as the value machine reads them, each checked by the kernel. Conditions: none. -/
import Derived.Test.YtdigejpgjnhclaaDoorProg
import Derived.Test.YtdigejpgjnhclaaDoorVm4
namespace Go.Proofs.YtdigejpgjnhclaaDoor.Vm
open Go Go.RowKit
set_option maxRecDepth 100000
theorem ty1 : tiOf Tryd.prog 1 = some ⟨.oth, 1, 8, [.nilF]⟩ := by kernel_rfl
theorem ty2 : tiOf Tryd.prog 2 = some ⟨.int .i64, 1, 8, [.int .i64 0]⟩ := by kernel_rfl
theorem ty3 : tiOf Tryd.prog 3 = some ⟨.int .i64, 1, 8, [.int .i64 0]⟩ := by kernel_rfl
theorem ty4 : tiOf Tryd.prog 4 = some ⟨.bool, 1, 1, [.bool false]⟩ := by kernel_rfl
theorem ty5 : tiOf Tryd.prog 5 = some ⟨.int .u8, 1, 1, [.int .u8 0]⟩ := by kernel_rfl
theorem ty6 : tiOf Tryd.prog 6 = some ⟨.int .u8, 1, 1, [.int .u8 0]⟩ := by kernel_rfl
theorem ty7 : tiOf Tryd.prog 7 = some ⟨.str, 4, 24, [.int .i64 0, .int .i64 0, .bool false, .int .u8 0]⟩ := by kernel_rfl
theorem ty8 : tiOf Tryd.prog 8 = some ⟨.str, 4, 24, [.int .i64 0, .int .i64 0, .bool false, .int .u8 0]⟩ := by kernel_rfl
theorem ty9 : tiOf Tryd.prog 9 = some ⟨.strg, 1, 16, [.str ⟨#[]⟩]⟩ := by kernel_rfl
theorem ty10 : tiOf Tryd.prog 10 = some ⟨.strg, 1, 16, [.str ⟨#[]⟩]⟩ := by kernel_rfl
theorem ty11 : tiOf Tryd.prog 11 = some ⟨.strg, 1, 16, [.str ⟨#[]⟩]⟩ := by kernel_rfl
theorem ty12 : tiOf Tryd.prog 12 = some ⟨.int .u64, 1, 8, [.int .u64 0]⟩ := by kernel_rfl
theorem ty13 : tiOf Tryd.prog 13 = some ⟨.str, 2, 24, [.str ⟨#[]⟩, .int .u64 0]⟩ := by kernel_rfl
theorem ty14 : tiOf Tryd.prog 14 = some ⟨.str, 2, 24, [.str ⟨#[]⟩, .int .u64 0]⟩ := by kernel_rfl
theorem ty20 : tiOf Tryd.prog 20 = some ⟨.oth, 1, 16, [.nilI]⟩ := by kernel_rfl
theorem ty21 : tiOf Tryd.prog 21 = some ⟨.int .i32, 1, 4, [.int .i32 0]⟩ := by kernel_rfl
theorem ty22 : tiOf Tryd.prog 22 = some ⟨.slc 51, 1, 24, [.nil]⟩ := by kernel_rfl
theorem ty23 : tiOf Tryd.prog 23 = some ⟨.int .u64, 1, 8, [.int .u64 0]⟩ := by kernel_rfl
theorem ty24 : tiOf Tryd.prog 24 = some ⟨.str, 4, 40, [.int .i64 0, .int .i64 0, .int .u64 0, .str ⟨#[]⟩]⟩ := by kernel_rfl
theorem ty25 : tiOf Tryd.prog 25 = some ⟨.str, 4, 40, [.int .i64 0, .int .i64 0, .int .u64 0, .str ⟨#[]⟩]⟩ := by kernel_rfl
theorem ty26 : tiOf Tryd.prog 26 = some ⟨.slc 28, 1, 24, [.nil]⟩ := by kernel_rfl
theorem ty27 : tiOf Tryd.prog 27 = some ⟨.str, 7, 88, [.int .i64 0, .int .i64 0, .int .i64 0, .int .u64 0, .str ⟨#[]⟩, .str ⟨#[]⟩, .nil]⟩ := by kernel_rfl
theorem ty28 : tiOf Tryd.prog 28 = some ⟨.str, 7, 88, [.int .i64 0, .int .i64 0, .int .i64 0, .int .u64 0, .str ⟨#[]⟩, .str ⟨#[]⟩, .nil]⟩ := by kernel_rfl
theorem ty29 : tiOf Tryd.prog 29 = some ⟨.slc 37, 1, 24, [.nil]⟩ := by kernel_rfl
theorem ty32 : tiOf Tryd.prog 32 = some ⟨.oth, 1, 8, [.nilF]⟩ := by kernel_rfl
theorem ty33 : tiOf Tryd.prog 33 = some ⟨.int .i64, 1, 8, [.int .i64 0]⟩ := by kernel_rfl
theorem ty35 : tiOf Tryd.prog 35 = some ⟨.oth, 1, 8, [.nilF]⟩ := by kernel_rfl
theorem ty36 : tiOf Tryd.prog 36 = some ⟨.str, 3, 32, [.str ⟨#[]⟩, .int .i64 0, .bool false]⟩ := by kernel_rfl
theorem ty37 : tiOf Tryd.prog 37 = some ⟨.str, 3, 32, [.str ⟨#[]⟩, .int .i64 0, .bool false]⟩ := by kernel_rfl
theorem ty38 : tiOf Tryd.prog 38 = some ⟨.oth, 1, 8, [.nilF]⟩ := by kernel_rfl
theorem ty39 : tiOf Tryd.prog 39 = some ⟨.oth, 1, 8, [.nilF]⟩ := by kernel_rfl
theorem ty40 : tiOf Tryd.prog 40 = some ⟨.oth, 1, 8, [.nilF]⟩ := by kernel_rfl
theorem ty41 : tiOf Tryd.prog 41 = some ⟨.slc 25, 1, 24, [.nil]⟩ := by kernel_rfl
theorem ty43 : tiOf Tryd.prog 43 = some ⟨.oth, 1, 8, [.nilF]⟩ := by kernel_rfl
theorem ty45 : tiOf Tryd.prog 45 = some ⟨.oth, 1, 8, [.nilF]⟩ := by kernel_rfl
theorem ty46 : tiOf Tryd.prog 46 = some ⟨.oth, 1, 8, [.nilF]⟩ := by kernel_rfl
theorem ty47 : tiOf Tryd.prog 47 = some ⟨.int .u64, 1, 8, [.int .u64 0]⟩ := by kernel_rfl
theorem ty48 : tiOf Tryd.prog 48 = some ⟨.oth, 1, 8, [.nilF]⟩ := by kernel_rfl
theorem ty49 : tiOf Tryd.prog 49 = some ⟨.oth, 1, 8, [.nilF]⟩ := by kernel_rfl
theorem ty50 : tiOf Tryd.prog 50 = some ⟨.str, 4, 40, [.int .i64 0, .int .i64 0, .int .i64 0, .str ⟨#[]⟩]⟩ := by kernel_rfl
theorem ty51 : tiOf Tryd.prog 51 = some ⟨.str, 4, 40, [.int .i64 0, .int .i64 0, .int .i64 0, .str ⟨#[]⟩]⟩ := by kernel_rfl
theorem ty52 : tiOf Tryd.prog 52 = some ⟨.oth, 1, 8, [.nilF]⟩ := by kernel_rfl
theorem ty53 : tiOf Tryd.prog 53 = some ⟨.oth, 1, 8, [.nilF]⟩ := by kernel_rfl
theorem ty54 : tiOf Tryd.prog 54 = some ⟨.oth, 1, 8, [.nilF]⟩ := by kernel_rfl
theorem ty55 : tiOf Tryd.prog 55 = some ⟨.oth, 1, 8, [.nilF]⟩ := by kernel_rfl
theorem ty56 : tiOf Tryd.prog 56 = some ⟨.oth, 1, 8, [.nilF]⟩ := by kernel_rfl
theorem ty57 : tiOf Tryd.prog 57 = some ⟨.oth, 1, 8, [.nilF]⟩ := by kernel_rfl
theorem ty58 : tiOf Tryd.prog 58 = some ⟨.oth, 1, 8, [.nilF]⟩ := by kernel_rfl
theorem ty59 : tiOf Tryd.prog 59 = some ⟨.str, 3, 56, [.nil, .int .i64 0, .nil]⟩ := by kernel_rfl
theorem ty60 : tiOf Tryd.prog 60 = some ⟨.str, 3, 56, [.nil, .int .i64 0, .nil]⟩ := by kernel_rfl
theorem ty61 : tiOf Tryd.prog 61 = some ⟨.oth, 1, 8, [.nilF]⟩ := by kernel_rfl
theorem ty62 : tiOf Tryd.prog 62 = some ⟨.oth, 1, 8, [.nilF]⟩ := by kernel_rfl
theorem ty63 : tiOf Tryd.prog 63 = some ⟨.oth, 1, 8, [.nilF]⟩ := by kernel_rfl
theorem ty64 : tiOf Tryd.prog 64 = some ⟨.oth, 1, 8, [.nilF]⟩ := by kernel_rfl
theorem ty66 : tiOf Tryd.prog 66 = some ⟨.oth, 1, 8, [.nilF]⟩ := by kernel_rfl
theorem ty67 : tiOf Tryd.prog 67 = some ⟨.oth, 1, 8, [.nilF]⟩ := by kernel_rfl
theorem ty68 : tiOf Tryd.prog 68 = some ⟨.oth, 1, 8, [.nilF]⟩ := by kernel_rfl
theorem ty69 : tiOf Tryd.prog 69 = some ⟨.oth, 1, 8, [.nilF]⟩ := by kernel_rfl
theorem ty70 : tiOf Tryd.prog 70 = some ⟨.oth, 1, 8, [.nilF]⟩ := by kernel_rfl
theorem ty71 : tiOf Tryd.prog 71 = some ⟨.oth, 1, 8, [.nilF]⟩ := by kernel_rfl
theorem ty72 : tiOf Tryd.prog 72 = some ⟨.str, 2, 16, [.int .i64 0, .bool false]⟩ := by kernel_rfl
theorem ty73 : tiOf Tryd.prog 73 = some ⟨.str, 2, 16, [.int .i64 0, .bool false]⟩ := by kernel_rfl
theorem ty75 : tiOf Tryd.prog 75 = some ⟨.oth, 1, 8, [.nilF]⟩ := by kernel_rfl
theorem ty76 : tiOf Tryd.prog 76 = some ⟨.oth, 1, 16, [.nilI]⟩ := by kernel_rfl
theorem ty77 : tiOf Tryd.prog 77 = some ⟨.oth, 1, 16, [.nilI]⟩ := by kernel_rfl
theorem ty78 : tiOf Tryd.prog 78 = some ⟨.oth, 1, 8, [.nilF]⟩ := by kernel_rfl
theorem ty79 : tiOf Tryd.prog 79 = some ⟨.oth, 1, 8, [.nilF]⟩ := by kernel_rfl
theorem ty80 : tiOf Tryd.prog 80 = some ⟨.oth, 1, 8, [.nilF]⟩ := by kernel_rfl
theorem ty81 : tiOf Tryd.prog 81 = some ⟨.oth, 1, 8, [.nilF]⟩ := by kernel_rfl
theorem ty82 : tiOf Tryd.prog 82 = some ⟨.oth, 1, 8, [.nilF]⟩ := by kernel_rfl
theorem ty83 : tiOf Tryd.prog 83 = some ⟨.oth, 1, 8, [.nilF]⟩ := by kernel_rfl
theorem ty84 : tiOf Tryd.prog 84 = some ⟨.oth, 1, 8, [.nilF]⟩ := by kernel_rfl
theorem ty85 : tiOf Tryd.prog 85 = some ⟨.oth, 1, 8, [.nilF]⟩ := by kernel_rfl
theorem ty87 : tiOf Tryd.prog 87 = some ⟨.oth, 1, 8, [.nilF]⟩ := by kernel_rfl
theorem ty88 : tiOf Tryd.prog 88 = some ⟨.oth, 1, 8, [.nilF]⟩ := by kernel_rfl
theorem ty89 : tiOf Tryd.prog 89 = some ⟨.str, 4, 40, [.int .i64 0, .str ⟨#[]⟩, .int .i64 0, .int .u64 0]⟩ := by kernel_rfl
theorem ty90 : tiOf Tryd.prog 90 = some ⟨.str, 4, 40, [.int .i64 0, .str ⟨#[]⟩, .int .i64 0, .int .u64 0]⟩ := by kernel_rfl
theorem ty91 : tiOf Tryd.prog 91 = some ⟨.arr 2 73, 4, 32, [.int .i64 0, .bool false, .int .i64 0, .bool false]⟩ := by kernel_rfl
theorem ty92 : tiOf Tryd.prog 92 = some ⟨.oth, 1, 8, [.nilF]⟩ := by kernel_rfl
theorem ty93 : tiOf Tryd.prog 93 = some ⟨.str, 2, 24, [.int .i64 0, .nilI]⟩ := by kernel_rfl
theorem ty94 : tiOf Tryd.prog 94 = some ⟨.str, 2, 24, [.int .i64 0, .nilI]⟩ := by kernel_rfl
theorem ty95 : tiOf Tryd.prog 95 = some ⟨.str, 3, 40, [.int .i64 0, .nilI, .nilI]⟩ := by kernel_rfl
theorem ty96 : tiOf Tryd.prog 96 = some ⟨.str, 3, 40, [.int .i64 0, .nilI, .nilI]⟩ := by kernel_rfl
theorem ty97 : tiOf Tryd.prog 97 = some ⟨.str, 4, 40, [.int .i64 0, .int .i64 0, .int .u64 0, .str ⟨#[]⟩]⟩ := by kernel_rfl
theorem ty98 : tiOf Tryd.prog 98 = some ⟨.str, 4, 40, [.int .i64 0, .int .i64 0, .int .u64 0, .str ⟨#[]⟩]⟩ := by kernel_rfl
theorem ty99 : tiOf Tryd.prog 99 = some ⟨.str, 1, 8, [.int .i64 0]⟩ := by kernel_rfl
theorem ty100 : tiOf Tryd.prog 100 = some ⟨.str, 1, 8, [.int .i64 0]⟩ := by kernel_rfl
theorem ty101 : tiOf Tryd.prog 101 = some ⟨.str, 0, 0, []⟩ := by kernel_rfl
theorem ty102 : tiOf Tryd.prog 102 = some ⟨.str, 0, 0, []⟩ := by kernel_rfl
theorem ty103 : tiOf Tryd.prog 103 = some ⟨.oth, 1, 8, [.nilF]⟩ := by kernel_rfl
theorem ty104 : tiOf Tryd.prog 104 = some ⟨.oth, 1, 8, [.nilF]⟩ := by kernel_rfl
theorem ty105 : tiOf Tryd.prog 105 = some ⟨.oth, 1, 8, [.nilF]⟩ := by kernel_rfl
theorem ty106 : tiOf Tryd.prog 106 = some ⟨.oth, 1, 8, [.nilF]⟩ := by kernel_rfl
theorem ty107 : tiOf Tryd.prog 107 = some ⟨.slc 73, 1, 24, [.nil]⟩ := by kernel_rfl
theorem ty108 : tiOf Tryd.prog 108 = some ⟨.oth, 1, 8, [.nilF]⟩ := by kernel_rfl
theorem ty109 : tiOf Tryd.prog 109 = some ⟨.oth, 1, 8, [.nilF]⟩ := by kernel_rfl
theorem ty110 : tiOf Tryd.prog 110 = some ⟨.oth, 1, 8, [.nilF]⟩ := by kernel_rfl
theorem ty111 : tiOf Tryd.prog 111 = some ⟨.flt, 1, 8, [.flt .f64 0]⟩ := by kernel_rfl
theorem ty112 : tiOf Tryd.prog 112 = some ⟨.oth, 1, 8, [.nilF]⟩ := by kernel_rfl
theorem ty113 : tiOf Tryd.prog 113 = some ⟨.oth, 1, 8, [.nilF]⟩ := by kernel_rfl
theorem ty114 : tiOf Tryd.prog 114 = some ⟨.oth, 1, 8, [.nilF]⟩ := by kernel_rfl
theorem ty115 : tiOf Tryd.prog 115 = some ⟨.oth, 1, 8, [.nilF]⟩ := by kernel_rfl
theorem ty116 : tiOf Tryd.prog 116 = some ⟨.arr 256 5, 256, 256, List.replicate 256 (.int .u8 0)⟩ := by kernel_rfl
theorem ty117 : tiOf Tryd.prog 117 = some ⟨.str, 2, 2, [.int .u8 0, .int .u8 0]⟩ := by kernel_rfl
theorem ty118 : tiOf Tryd.prog 118 = some ⟨.str, 2, 2, [.int .u8 0, .int .u8 0]⟩ := by kernel_rfl
theorem ty119 : tiOf Tryd.prog 119 = some ⟨.arr 16 118, 32, 32, List.replicate 32 (.int .u8 0)⟩ := by kernel_rfl
theorem ty120 : tiOf Tryd.prog 120 = some ⟨.oth, 1, 8, [.nilF]⟩ := by kernel_rfl
theorem ty121 : tiOf Tryd.prog 121 = some ⟨.oth, 1, 8, [.nilF]⟩ := by kernel_rfl
theorem ty124 : tiOf Tryd.prog 124 = some ⟨.arr 0 16, 0, 0, []⟩ := by kernel_rfl
theorem ty125 : tiOf Tryd.prog 125 = some ⟨.str, 0, 0, []⟩ := by kernel_rfl
theorem ty126 : tiOf Tryd.prog 126 = some ⟨.str, 0, 0, []⟩ := by kernel_rfl
theorem ty127 : tiOf Tryd.prog 127 = some ⟨.oth, 1, 8, [.nilF]⟩ := by kernel_rfl
theorem ty128 : tiOf Tryd.prog 128 = some ⟨.int .u32, 1, 4, [.int .u32 0]⟩ := by kernel_rfl
theorem ty129 : tiOf Tryd.prog 129 = some ⟨.int .u8, 1, 1, [.int .u8 0]⟩ := by kernel_rfl
theorem ty130 : tiOf Tryd.prog 130 = some ⟨.int .u8, 1, 1, [.int .u8 0]⟩ := by kernel_rfl
theorem ty131 : tiOf Tryd.prog 131 = some ⟨.oth, 1, 8, [.nilF]⟩ := by kernel_rfl
theorem ty133 : tiOf Tryd.prog 133 = some ⟨.int .i32, 1, 4, [.int .i32 0]⟩ := by kernel_rfl
theorem ty134 : tiOf Tryd.prog 134 = some ⟨.int .i32, 1, 4, [.int .i32 0]⟩ := by kernel_rfl
theorem ty137 : tiOf Tryd.prog 137 = some ⟨.oth, 1, 8, [.nilF]⟩ := by kernel_rfl
theorem ty138 : tiOf Tryd.prog 138 = some ⟨.oth, 1, 8, [.nilF]⟩ := by kernel_rfl
theorem ty139 : tiOf Tryd.prog 139 = some ⟨.oth, 1, 8, [.nilF]⟩ := by kernel_rfl
theorem ty140 : tiOf Tryd.prog 140 = some ⟨.oth, 1, 8, [.nilF]⟩ := by kernel_rfl
theorem ty141 : tiOf Tryd.prog 141 = some ⟨.oth, 1, 8, [.nilF]⟩ := by kernel_rfl
theorem ty142 : tiOf Tryd.prog 142 = some ⟨.oth, 1, 8, [.nilF]⟩ := by kernel_rfl
theorem ty144 : tiOf Tryd.prog 144 = some ⟨.oth, 1, 8, [.nilF]⟩ := by kernel_rfl
theorem ty145 : tiOf Tryd.prog 145 = some ⟨.oth, 1, 8, [.nilF]⟩ := by kernel_rfl
theorem ty146 : tiOf Tryd.prog 146 = some ⟨.oth, 1, 8, [.nilF]⟩ := by kernel_rfl
theorem ty147 : tiOf Tryd.prog 147 = some ⟨.oth, 1, 8, [.nilF]⟩ := by kernel_rfl
theorem ty148 : tiOf Tryd.prog 148 = some ⟨.oth, 1, 8, [.nilF]⟩ := by kernel_rfl
theorem ty149 : tiOf Tryd.prog 149 = some ⟨.oth, 1, 8, [.nilF]⟩ := by kernel_rfl
theorem ty150 : tiOf Tryd.prog 150 = some ⟨.slc 3, 1, 24, [.nil]⟩ := by kernel_rfl
theorem ty151 : tiOf Tryd.prog 151 = some ⟨.oth, 1, 8, [.nilF]⟩ := by kernel_rfl
theorem ty152 : tiOf Tryd.prog 152 = some ⟨.oth, 1, 8, [.nilF]⟩ := by kernel_rfl
theorem ly7 : laysOf Tryd.prog 7 = some [(0, 1), (1, 1), (2, 1), (3, 1)] := by kernel_rfl
theorem ly8 : laysOf Tryd.prog 8 = some [(0, 1), (1, 1), (2, 1), (3, 1)] := by kernel_rfl
theorem ly13 : laysOf Tryd.prog 13 = some [(0, 1), (1, 1)] := by kernel_rfl
theorem ly14 : laysOf Tryd.prog 14 = some [(0, 1), (1, 1)] := by kernel_rfl
theorem ly24 : laysOf Tryd.prog 24 = some [(0, 1), (1, 1), (2, 1), (3, 1)] := by kernel_rfl
theorem ly25 : laysOf Tryd.prog 25 = some [(0, 1), (1, 1), (2, 1), (3, 1)] := by kernel_rfl
theorem ly27 : laysOf Tryd.prog 27 = some [(0, 1), (1, 4), (5, 1), (6, 1)] := by kernel_rfl
theorem ly28 : laysOf Tryd.prog 28 = some [(0, 1), (1, 4), (5, 1), (6, 1)] := by kernel_rfl
theorem ly36 : laysOf Tryd.prog 36 = some [(0, 1), (1, 1), (2, 1)] := by kernel_rfl
theorem ly37 : laysOf Tryd.prog 37 = some [(0, 1), (1, 1), (2, 1)] := by kernel_rfl
theorem ly50 : laysOf Tryd.prog 50 = some [(0, 1), (1, 1), (2, 1), (3, 1)] := by kernel_rfl
theorem ly51 : laysOf Tryd.prog 51 = some [(0, 1), (1, 1), (2, 1), (3, 1)] := by kernel_rfl
theorem ly59 : laysOf Tryd.prog 59 = some [(0, 1), (1, 1), (2, 1)] := by kernel_rfl
theorem ly60 : laysOf Tryd.prog 60 = some [(0, 1), (1, 1), (2, 1)] := by kernel_rfl
theorem ly72 : laysOf Tryd.prog 72 = some [(0, 1), (1, 1)] := by kernel_rfl
theorem ly73 : laysOf Tryd.prog 73 = some [(0, 1), (1, 1)] := by kernel_rfl
theorem ly89 : laysOf Tryd.prog 89 = some [(0, 1), (1, 1), (2, 1), (3, 1)] := by kernel_rfl
theorem ly90 : laysOf Tryd.prog 90 = some [(0, 1), (1, 1), (2, 1), (3, 1)] := by kernel_rfl
theorem ly93 : laysOf Tryd.prog 93 = some [(0, 1), (1, 1)] := by kernel_rfl
theorem ly94 : laysOf Tryd.prog 94 = some [(0, 1), (1, 1)] := by kernel_rfl
theorem ly95 : laysOf Tryd.prog 95 = some [(0, 1), (1, 1), (2, 1)] := by kernel_rfl
theorem ly96 : laysOf Tryd.prog 96 = some [(0, 1), (1, 1), (2, 1)] := by kernel_rfl
theorem ly97 : laysOf Tryd.prog 97 = some [(0, 4)] := by kernel_rfl
theorem ly98 : laysOf Tryd.prog 98 = some [(0, 4)] := by kernel_rfl
theorem ly99 : laysOf Tryd.prog 99 = some [(0, 1)] := by kernel_rfl
theorem ly100 : laysOf Tryd.prog 100 = some [(0, 1)] := by kernel_rfl
theorem ly101 : laysOf Tryd.prog 101 = some [] := by kernel_rfl
theorem ly102 : laysOf Tryd.prog 102 = some [] := by kernel_rfl
theorem ly117 : laysOf Tryd.prog 117 = some [(0, 1), (1, 1)] := by kernel_rfl
theorem ly118 : laysOf Tryd.prog 118 = some [(0, 1), (1, 1)] := by kernel_rfl
theorem ly125 : laysOf Tryd.prog 125 = some [(0, 0)] := by kernel_rfl
theorem ly126 : laysOf Tryd.prog 126 = some [(0, 0)] := by kernel_rfl
def tyT : List (Nat × TI) := [(1, ⟨.oth, 1, 8, [.nilF]⟩), (2, ⟨.int .i64, 1, 8, [.int .i64 0]⟩), (3, ⟨.int .i64, 1, 8, [.int .i64 0]⟩), (4, ⟨.bool, 1, 1, [.bool false]⟩), (5, ⟨.int .u8, 1, 1, [.int .u8 0]⟩), (6, ⟨.int .u8, 1, 1, [.int .u8 0]⟩), (7, ⟨.str, 4, 24, [.int .i64 0, .int .i64 0, .bool false, .int .u8 0]⟩), (8, ⟨.str, 4, 24, [.int .i64 0, .int .i64 0, .bool false, .int .u8 0]⟩), (9, ⟨.strg, 1, 16, [.str ⟨#[]⟩]⟩), (10, ⟨.strg, 1, 16, [.str ⟨#[]⟩]⟩), (11, ⟨.strg, 1, 16, [.str ⟨#[]⟩]⟩), (12, ⟨.int .u64, 1, 8, [.int .u64 0]⟩), (13, ⟨.str, 2, 24, [.str ⟨#[]⟩, .int .u64 0]⟩), (14, ⟨.str, 2, 24, [.str ⟨#[]⟩, .int .u64 0]⟩), (20, ⟨.oth, 1, 16, [.nilI]⟩), (21, ⟨.int .i32, 1, 4, [.int .i32 0]⟩), (22, ⟨.slc 51, 1, 24, [.nil]⟩), (23, ⟨.int .u64, 1, 8, [.int .u64 0]⟩), (24, ⟨.str, 4, 40, [.int .i64 0, .int .i64 0, .int .u64 0, .str ⟨#[]⟩]⟩), (25, ⟨.str, 4, 40, [.int .i64 0, .int .i64 0, .int .u64 0, .str ⟨#[]⟩]⟩), (26, ⟨.slc 28, 1, 24, [.nil]⟩), (27, ⟨.str, 7, 88, [.int .i64 0, .int .i64 0, .int .i64 0, .int .u64 0, .str ⟨#[]⟩, .str ⟨#[]⟩, .nil]⟩), (28, ⟨.str, 7, 88, [.int .i64 0, .int .i64 0, .int .i64 0, .int .u64 0, .str ⟨#[]⟩, .str ⟨#[]⟩, .nil]⟩), (29, ⟨.slc 37, 1, 24, [.nil]⟩), (32, ⟨.oth, 1, 8, [.nilF]⟩), (33, ⟨.int .i64, 1, 8, [.int .i64 0]⟩), (35, ⟨.oth, 1, 8, [.nilF]⟩), (36, ⟨.str, 3, 32, [.str ⟨#[]⟩, .int .i64 0, .bool false]⟩), (37, ⟨.str, 3, 32, [.str ⟨#[]⟩, .int .i64 0, .bool false]⟩), (38, ⟨.oth, 1, 8, [.nilF]⟩), (39, ⟨.oth, 1, 8, [.nilF]⟩), (40, ⟨.oth, 1, 8, [.nilF]⟩), (41, ⟨.slc 25, 1, 24, [.nil]⟩), (43, ⟨.oth, 1, 8, [.nilF]⟩), (45, ⟨.oth, 1, 8, [.nilF]⟩), (46, ⟨.oth, 1, 8, [.nilF]⟩), (47, ⟨.int .u64, 1, 8, [.int .u64 0]⟩), (48, ⟨.oth, 1, 8, [.nilF]⟩), (49, ⟨.oth, 1, 8, [.nilF]⟩), (50, ⟨.str, 4, 40, [.int .i64 0, .int .i64 0, .int .i64 0, .str ⟨#[]⟩]⟩), (51, ⟨.str, 4, 40, [.int .i64 0, .int .i64 0, .int .i64 0, .str ⟨#[]⟩]⟩), (52, ⟨.oth, 1, 8, [.nilF]⟩), (53, ⟨.oth, 1, 8, [.nilF]⟩), (54, ⟨.oth, 1, 8, [.nilF]⟩), (55, ⟨.oth, 1, 8, [.nilF]⟩), (56, ⟨.oth, 1, 8, [.nilF]⟩), (57, ⟨.oth, 1, 8, [.nilF]⟩), (58, ⟨.oth, 1, 8, [.nilF]⟩), (59, ⟨.str, 3, 56, [.nil, .int .i64 0, .nil]⟩), (60, ⟨.str, 3, 56, [.nil, .int .i64 0, .nil]⟩), (61, ⟨.oth, 1, 8, [.nilF]⟩), (62, ⟨.oth, 1, 8, [.nilF]⟩), (63, ⟨.oth, 1, 8, [.nilF]⟩), (64, ⟨.oth, 1, 8, [.nilF]⟩), (66, ⟨.oth, 1, 8, [.nilF]⟩), (67, ⟨.oth, 1, 8, [.nilF]⟩), (68, ⟨.oth, 1, 8, [.nilF]⟩), (69, ⟨.oth, 1, 8, [.nilF]⟩), (70, ⟨.oth, 1, 8, [.nilF]⟩), (71, ⟨.oth, 1, 8, [.nilF]⟩), (72, ⟨.str, 2, 16, [.int .i64 0, .bool false]⟩), (73, ⟨.str, 2, 16, [.int .i64 0, .bool false]⟩), (75, ⟨.oth, 1, 8, [.nilF]⟩), (76, ⟨.oth, 1, 16, [.nilI]⟩), (77, ⟨.oth, 1, 16, [.nilI]⟩), (78, ⟨.oth, 1, 8, [.nilF]⟩), (79, ⟨.oth, 1, 8, [.nilF]⟩), (80, ⟨.oth, 1, 8, [.nilF]⟩), (81, ⟨.oth, 1, 8, [.nilF]⟩), (82, ⟨.oth, 1, 8, [.nilF]⟩), (83, ⟨.oth, 1, 8, [.nilF]⟩), (84, ⟨.oth, 1, 8, [.nilF]⟩), (85, ⟨.oth, 1, 8, [.nilF]⟩), (87, ⟨.oth, 1, 8, [.nilF]⟩), (88, ⟨.oth, 1, 8, [.nilF]⟩), (89, ⟨.str, 4, 40, [.int .i64 0, .str ⟨#[]⟩, .int .i64 0, .int .u64 0]⟩), (90, ⟨.str, 4, 40, [.int .i64 0, .str ⟨#[]⟩, .int .i64 0, .int .u64 0]⟩), (91, ⟨.arr 2 73, 4, 32, [.int .i64 0, .bool false, .int .i64 0, .bool false]⟩), (92, ⟨.oth, 1, 8, [.nilF]⟩), (93, ⟨.str, 2, 24, [.int .i64 0, .nilI]⟩), (94, ⟨.str, 2, 24, [.int .i64 0, .nilI]⟩), (95, ⟨.str, 3, 40, [.int .i64 0, .nilI, .nilI]⟩), (96, ⟨.str, 3, 40, [.int .i64 0, .nilI, .nilI]⟩), (97, ⟨.str, 4, 40, [.int .i64 0, .int .i64 0, .int .u64 0, .str ⟨#[]⟩]⟩), (98, ⟨.str, 4, 40, [.int .i64 0, .int .i64 0, .int .u64 0, .str ⟨#[]⟩]⟩), (99, ⟨.str, 1, 8, [.int .i64 0]⟩), (100, ⟨.str, 1, 8, [.int .i64 0]⟩), (101, ⟨.str, 0, 0, []⟩), (102, ⟨.str, 0, 0, []⟩), (103, ⟨.oth, 1, 8, [.nilF]⟩), (104, ⟨.oth, 1, 8, [.nilF]⟩), (105, ⟨.oth, 1, 8, [.nilF]⟩), (106, ⟨.oth, 1, 8, [.nilF]⟩), (107, ⟨.slc 73, 1, 24, [.nil]⟩), (108, ⟨.oth, 1, 8, [.nilF]⟩), (109, ⟨.oth, 1, 8, [.nilF]⟩), (110, ⟨.oth, 1, 8, [.nilF]⟩), (111, ⟨.flt, 1, 8, [.flt .f64 0]⟩), (112, ⟨.oth, 1, 8, [.nilF]⟩), (113, ⟨.oth, 1, 8, [.nilF]⟩), (114, ⟨.oth, 1, 8, [.nilF]⟩), (115, ⟨.oth, 1, 8, [.nilF]⟩), (116, ⟨.arr 256 5, 256, 256, List.replicate 256 (.int .u8 0)⟩), (117, ⟨.str, 2, 2, [.int .u8 0, .int .u8 0]⟩), (118, ⟨.str, 2, 2, [.int .u8 0, .int .u8 0]⟩), (119, ⟨.arr 16 118, 32, 32, List.replicate 32 (.int .u8 0)⟩), (120, ⟨.oth, 1, 8, [.nilF]⟩), (121, ⟨.oth, 1, 8, [.nilF]⟩), (124, ⟨.arr 0 16, 0, 0, []⟩), (125, ⟨.str, 0, 0, []⟩), (126, ⟨.str, 0, 0, []⟩), (127, ⟨.oth, 1, 8, [.nilF]⟩), (128, ⟨.int .u32, 1, 4, [.int .u32 0]⟩), (129, ⟨.int .u8, 1, 1, [.int .u8 0]⟩), (130, ⟨.int .u8, 1, 1, [.int .u8 0]⟩), (131, ⟨.oth, 1, 8, [.nilF]⟩), (133, ⟨.int .i32, 1, 4, [.int .i32 0]⟩), (134, ⟨.int .i32, 1, 4, [.int .i32 0]⟩), (137, ⟨.oth, 1, 8, [.nilF]⟩), (138, ⟨.oth, 1, 8, [.nilF]⟩), (139, ⟨.oth, 1, 8, [.nilF]⟩), (140, ⟨.oth, 1, 8, [.nilF]⟩), (141, ⟨.oth, 1, 8, [.nilF]⟩), (142, ⟨.oth, 1, 8, [.nilF]⟩), (144, ⟨.oth, 1, 8, [.nilF]⟩), (145, ⟨.oth, 1, 8, [.nilF]⟩), (146, ⟨.oth, 1, 8, [.nilF]⟩), (147, ⟨.oth, 1, 8, [.nilF]⟩), (148, ⟨.oth, 1, 8, [.nilF]⟩), (149, ⟨.oth, 1, 8, [.nilF]⟩), (150, ⟨.slc 3, 1, 24, [.nil]⟩), (151, ⟨.oth, 1, 8, [.nilF]⟩), (152, ⟨.oth, 1, 8, [.nilF]⟩)]
def lyT : List (Nat × List (Nat × Nat)) := [(7, [(0, 1), (1, 1), (2, 1), (3, 1)]), (8, [(0, 1), (1, 1), (2, 1), (3, 1)]), (13, [(0, 1), (1, 1)]), (14, [(0, 1), (1, 1)]), (24, [(0, 1), (1, 1), (2, 1), (3, 1)]), (25, [(0, 1), (1, 1), (2, 1), (3, 1)]), (27, [(0, 1), (1, 4), (5, 1), (6, 1)]), (28, [(0, 1), (1, 4), (5, 1), (6, 1)]), (36, [(0, 1), (1, 1), (2, 1)]), (37, [(0, 1), (1, 1), (2, 1)]), (50, [(0, 1), (1, 1), (2, 1), (3, 1)]), (51, [(0, 1), (1, 1), (2, 1), (3, 1)]), (59, [(0, 1), (1, 1), (2, 1)]), (60, [(0, 1), (1, 1), (2, 1)]), (72, [(0, 1), (1, 1)]), (73, [(0, 1), (1, 1)]), (89, [(0, 1), (1, 1), (2, 1), (3, 1)]), (90, [(0, 1), (1, 1), (2, 1), (3, 1)]), (93, [(0, 1), (1, 1)]), (94, [(0, 1), (1, 1)]), (95, [(0, 1), (1, 1), (2, 1)]), (96, [(0, 1), (1, 1), (2, 1)]), (97, [(0, 4)]), (98, [(0, 4)]), (99, [(0, 1)]), (100, [(0, 1)]), (101, []), (102, []), (117, [(0, 1), (1, 1)]), (118, [(0, 1), (1, 1)]), (125, [(0, 0)]), (126, [(0, 0)])]
theorem look_mem {α : Type} : ∀ {l : List (Nat × α)} {i : Nat} {x : α}, look l i = some x → (i, x) ∈ l
  | [], i, x, h => by simp [look] at h
  | (k, y) :: l, i, x, h => by
    rw [look_cons] at h
    by_cases c : k = i
    · rw [if_pos c] at h
      obtain rfl := Option.some.inj h
      subst c
      simp
    · rw [if_neg c] at h
      exact List.mem_cons_of_mem _ (look_mem h)
theorem tyOk : ∀ p ∈ tyT, tiOf Tryd.prog p.1 = some p.2 := by
  simp only [tyT, List.forall_mem_cons]
  exact ⟨ty1, ty2, ty3, ty4, ty5, ty6, ty7, ty8, ty9, ty10, ty11, ty12, ty13, ty14, ty20, ty21, ty22, ty23, ty24, ty25, ty26, ty27, ty28, ty29, ty32, ty33, ty35, ty36, ty37, ty38, ty39, ty40, ty41, ty43, ty45, ty46, ty47, ty48, ty49, ty50, ty51, ty52, ty53, ty54, ty55, ty56, ty57, ty58, ty59, ty60, ty61, ty62, ty63, ty64, ty66, ty67, ty68, ty69, ty70, ty71, ty72, ty73, ty75, ty76, ty77, ty78, ty79, ty80, ty81, ty82, ty83, ty84, ty85, ty87, ty88, ty89, ty90, ty91, ty92, ty93, ty94, ty95, ty96, ty97, ty98, ty99, ty100, ty101, ty102, ty103, ty104, ty105, ty106, ty107, ty108, ty109, ty110, ty111, ty112, ty113, ty114, ty115, ty116, ty117, ty118, ty119, ty120, ty121, ty124, ty125, ty126, ty127, ty128, ty129, ty130, ty131, ty133, ty134, ty137, ty138, ty139, ty140, ty141, ty142, ty144, ty145, ty146, ty147, ty148, ty149, ty150, ty151, ty152, fun p h => by simp at h⟩
theorem lyOk : ∀ p ∈ lyT, laysOf Tryd.prog p.1 = some p.2 := by
  simp only [lyT, List.forall_mem_cons]
  exact ⟨ly7, ly8, ly13, ly14, ly24, ly25, ly27, ly28, ly36, ly37, ly50, ly51, ly59, ly60, ly72, ly73, ly89, ly90, ly93, ly94, ly95, ly96, ly97, ly98, ly99, ly100, ly101, ly102, ly117, ly118, ly125, ly126, fun p h => by simp at h⟩
/-- The environment of this program, with what its package variables hold. -/
def tyL (t : Nat) : Option TI := look tyT t
def lyL (t : Nat) : Option (List (Nat × Nat)) := look lyT t
/-- A walk to which nothing is lent; to which those boxes are lent. -/
def EnL (P : Program) (g : Nat → Option (List PV)) (ln : List Nat) : Env := ⟨P, ⟨g, ln⟩, tyL, lyL⟩
abbrev En (P : Program) (g : Nat → Option (List PV)) : Env := EnL P g []
theorem EnLOk (g : Nat → Option (List PV)) (ln : List Nat) : (EnL Tryd.prog g ln).Ok := ⟨fun t i h => tyOk (t, i) (look_mem h), fun t i h => lyOk (t, i) (look_mem h)⟩
theorem EnOk (g : Nat → Option (List PV)) : (En Tryd.prog g).Ok := EnLOk g []
theorem T2 {P : Program} {g : Nat → Option (List PV)} {ln : List Nat} : (EnL P g ln).T 2 = some ⟨.int .i64, 1, 8, [.int .i64 0]⟩ := rfl
theorem T3 {P : Program} {g : Nat → Option (List PV)} {ln : List Nat} : (EnL P g ln).T 3 = some ⟨.int .i64, 1, 8, [.int .i64 0]⟩ := rfl
theorem T4 {P : Program} {g : Nat → Option (List PV)} {ln : List Nat} : (EnL P g ln).T 4 = some ⟨.bool, 1, 1, [.bool false]⟩ := rfl
theorem T9 {P : Program} {g : Nat → Option (List PV)} {ln : List Nat} : (EnL P g ln).T 9 = some ⟨.strg, 1, 16, [.str ⟨#[]⟩]⟩ := rfl
theorem T21 {P : Program} {g : Nat → Option (List PV)} {ln : List Nat} : (EnL P g ln).T 21 = some ⟨.int .i32, 1, 4, [.int .i32 0]⟩ := rfl
theorem T22 {P : Program} {g : Nat → Option (List PV)} {ln : List Nat} : (EnL P g ln).T 22 = some ⟨.slc 51, 1, 24, [.nil]⟩ := rfl
theorem T23 {P : Program} {g : Nat → Option (List PV)} {ln : List Nat} : (EnL P g ln).T 23 = some ⟨.int .u64, 1, 8, [.int .u64 0]⟩ := rfl
theorem T25 {P : Program} {g : Nat → Option (List PV)} {ln : List Nat} : (EnL P g ln).T 25 = some ⟨.str, 4, 40, [.int .i64 0, .int .i64 0, .int .u64 0, .str ⟨#[]⟩]⟩ := rfl
theorem T26 {P : Program} {g : Nat → Option (List PV)} {ln : List Nat} : (EnL P g ln).T 26 = some ⟨.slc 28, 1, 24, [.nil]⟩ := rfl
theorem T28 {P : Program} {g : Nat → Option (List PV)} {ln : List Nat} : (EnL P g ln).T 28 = some ⟨.str, 7, 88, [.int .i64 0, .int .i64 0, .int .i64 0, .int .u64 0, .str ⟨#[]⟩, .str ⟨#[]⟩, .nil]⟩ := rfl
theorem T29 {P : Program} {g : Nat → Option (List PV)} {ln : List Nat} : (EnL P g ln).T 29 = some ⟨.slc 37, 1, 24, [.nil]⟩ := rfl
theorem T37 {P : Program} {g : Nat → Option (List PV)} {ln : List Nat} : (EnL P g ln).T 37 = some ⟨.str, 3, 32, [.str ⟨#[]⟩, .int .i64 0, .bool false]⟩ := rfl
theorem T51 {P : Program} {g : Nat → Option (List PV)} {ln : List Nat} : (EnL P g ln).T 51 = some ⟨.str, 4, 40, [.int .i64 0, .int .i64 0, .int .i64 0, .str ⟨#[]⟩]⟩ := rfl
theorem T60 {P : Program} {g : Nat → Option (List PV)} {ln : List Nat} : (EnL P g ln).T 60 = some ⟨.str, 3, 56, [.nil, .int .i64 0, .nil]⟩ := rfl
theorem T90 {P : Program} {g : Nat → Option (List PV)} {ln : List Nat} : (EnL P g ln).T 90 = some ⟨.str, 4, 40, [.int .i64 0, .str ⟨#[]⟩, .int .i64 0, .int .u64 0]⟩ := rfl
theorem T150 {P : Program} {g : Nat → Option (List PV)} {ln : List Nat} : (EnL P g ln).T 150 = some ⟨.slc 3, 1, 24, [.nil]⟩ := rfl
theorem L25 {P : Program} {g : Nat → Option (List PV)} {ln : List Nat} : (EnL P g ln).L 25 = some [(0, 1), (1, 1), (2, 1), (3, 1)] := rfl
theorem L28 {P : Program} {g : Nat → Option (List PV)} {ln : List Nat} : (EnL P g ln).L 28 = some [(0, 1), (1, 4), (5, 1), (6, 1)] := rfl
theorem L37 {P : Program} {g : Nat → Option (List PV)} {ln : List Nat} : (EnL P g ln).L 37 = some [(0, 1), (1, 1), (2, 1)] := rfl
theorem L51 {P : Program} {g : Nat → Option (List PV)} {ln : List Nat} : (EnL P g ln).L 51 = some [(0, 1), (1, 1), (2, 1), (3, 1)] := rfl
theorem L60 {P : Program} {g : Nat → Option (List PV)} {ln : List Nat} : (EnL P g ln).L 60 = some [(0, 1), (1, 1), (2, 1)] := rfl
theorem L90 {P : Program} {g : Nat → Option (List PV)} {ln : List Nat} : (EnL P g ln).L 90 = some [(0, 1), (1, 1), (2, 1), (3, 1)] := rfl
theorem mixed : Tryd.prog.follows .mixedOrders = true := by kernel_rfl
theorem dT {p : Prop} [Decidable p] (h : p) : decide p = true := decide_eq_true h
theorem dF {p : Prop} [Decidable p] (h : ¬p) : decide p = false := decide_eq_false h
end Go.Proofs.YtdigejpgjnhclaaDoor.Vm
