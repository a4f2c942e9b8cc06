/- The types of this program as the value machine reads them, each checked by the kernel. Conditions: none. -/
import Derived.Test.YtlcmnhocicehmaaDoorProg
import Derived.Test.YtlcmnhocicehmaaDoorVm4
namespace Go.Proofs.YtlcmnhocicehmaaDoor.Vm
open Go Go.RowKit
set_option maxRecDepth 100000
theorem ty1 : tiOf Tryd.prog 1 = some ⟨.oth, 1, 8, [.nilF]⟩ := by kernel_rfl
theorem ty2 : tiOf Tryd.prog 2 = some ⟨.int .i64, 1, 8, [.int .i64 0]⟩ := by kernel_rfl
theorem ty3 : tiOf Tryd.prog 3 = some ⟨.int .i64, 1, 8, [.int .i64 0]⟩ := by kernel_rfl
theorem ty4 : tiOf Tryd.prog 4 = some ⟨.bool, 1, 1, [.bool false]⟩ := by kernel_rfl
theorem ty5 : tiOf Tryd.prog 5 = some ⟨.int .u8, 1, 1, [.int .u8 0]⟩ := by kernel_rfl
theorem ty6 : tiOf Tryd.prog 6 = some ⟨.int .u8, 1, 1, [.int .u8 0]⟩ := by kernel_rfl
theorem ty7 : tiOf Tryd.prog 7 = some ⟨.str, 4, 24, [.int .i64 0, .int .i64 0, .bool false, .int .u8 0]⟩ := by kernel_rfl
theorem ty8 : tiOf Tryd.prog 8 = some ⟨.str, 4, 24, [.int .i64 0, .int .i64 0, .bool false, .int .u8 0]⟩ := by kernel_rfl
theorem ty9 : tiOf Tryd.prog 9 = some ⟨.strg, 1, 16, [.str ⟨#[]⟩]⟩ := by kernel_rfl
theorem ty10 : tiOf Tryd.prog 10 = some ⟨.strg, 1, 16, [.str ⟨#[]⟩]⟩ := by kernel_rfl
theorem ty11 : tiOf Tryd.prog 11 = some ⟨.strg, 1, 16, [.str ⟨#[]⟩]⟩ := by kernel_rfl
theorem ty12 : tiOf Tryd.prog 12 = some ⟨.int .u64, 1, 8, [.int .u64 0]⟩ := by kernel_rfl
theorem ty13 : tiOf Tryd.prog 13 = some ⟨.str, 2, 24, [.str ⟨#[]⟩, .int .u64 0]⟩ := by kernel_rfl
theorem ty14 : tiOf Tryd.prog 14 = some ⟨.str, 2, 24, [.str ⟨#[]⟩, .int .u64 0]⟩ := by kernel_rfl
theorem ty20 : tiOf Tryd.prog 20 = some ⟨.oth, 1, 16, [.nilI]⟩ := by kernel_rfl
theorem ty21 : tiOf Tryd.prog 21 = some ⟨.int .i32, 1, 4, [.int .i32 0]⟩ := by kernel_rfl
theorem ty22 : tiOf Tryd.prog 22 = some ⟨.slc 31, 1, 24, [.nil]⟩ := by kernel_rfl
theorem ty23 : tiOf Tryd.prog 23 = some ⟨.int .u64, 1, 8, [.int .u64 0]⟩ := by kernel_rfl
theorem ty24 : tiOf Tryd.prog 24 = some ⟨.str, 4, 40, [.int .i64 0, .int .i64 0, .int .u64 0, .str ⟨#[]⟩]⟩ := by kernel_rfl
theorem ty25 : tiOf Tryd.prog 25 = some ⟨.str, 4, 40, [.int .i64 0, .int .i64 0, .int .u64 0, .str ⟨#[]⟩]⟩ := by kernel_rfl
theorem ty26 : tiOf Tryd.prog 26 = some ⟨.slc 28, 1, 24, [.nil]⟩ := by kernel_rfl
theorem ty27 : tiOf Tryd.prog 27 = some ⟨.str, 7, 88, [.int .i64 0, .int .i64 0, .int .i64 0, .int .u64 0, .str ⟨#[]⟩, .str ⟨#[]⟩, .nil]⟩ := by kernel_rfl
theorem ty28 : tiOf Tryd.prog 28 = some ⟨.str, 7, 88, [.int .i64 0, .int .i64 0, .int .i64 0, .int .u64 0, .str ⟨#[]⟩, .str ⟨#[]⟩, .nil]⟩ := by kernel_rfl
theorem ty29 : tiOf Tryd.prog 29 = some ⟨.oth, 1, 8, [.nilF]⟩ := by kernel_rfl
theorem ty30 : tiOf Tryd.prog 30 = some ⟨.str, 4, 40, [.int .i64 0, .int .i64 0, .int .i64 0, .str ⟨#[]⟩]⟩ := by kernel_rfl
theorem ty31 : tiOf Tryd.prog 31 = some ⟨.str, 4, 40, [.int .i64 0, .int .i64 0, .int .i64 0, .str ⟨#[]⟩]⟩ := by kernel_rfl
theorem ty32 : tiOf Tryd.prog 32 = some ⟨.oth, 1, 8, [.nilF]⟩ := by kernel_rfl
theorem ty33 : tiOf Tryd.prog 33 = some ⟨.oth, 1, 8, [.nilF]⟩ := by kernel_rfl
theorem ty34 : tiOf Tryd.prog 34 = some ⟨.oth, 1, 8, [.nilF]⟩ := by kernel_rfl
theorem ty35 : tiOf Tryd.prog 35 = some ⟨.slc 52, 1, 24, [.nil]⟩ := by kernel_rfl
theorem ty36 : tiOf Tryd.prog 36 = some ⟨.slc 25, 1, 24, [.nil]⟩ := by kernel_rfl
theorem ty38 : tiOf Tryd.prog 38 = some ⟨.oth, 1, 8, [.nilF]⟩ := by kernel_rfl
theorem ty39 : tiOf Tryd.prog 39 = some ⟨.str, 2, 16, [.int .i64 0, .int .i64 0]⟩ := by kernel_rfl
theorem ty40 : tiOf Tryd.prog 40 = some ⟨.str, 2, 16, [.int .i64 0, .int .i64 0]⟩ := by kernel_rfl
theorem ty41 : tiOf Tryd.prog 41 = some ⟨.int .i64, 1, 8, [.int .i64 0]⟩ := by kernel_rfl
theorem ty43 : tiOf Tryd.prog 43 = some ⟨.oth, 1, 8, [.nilF]⟩ := by kernel_rfl
theorem ty45 : tiOf Tryd.prog 45 = some ⟨.oth, 1, 8, [.nilF]⟩ := by kernel_rfl
theorem ty46 : tiOf Tryd.prog 46 = some ⟨.oth, 1, 8, [.nilF]⟩ := by kernel_rfl
theorem ty48 : tiOf Tryd.prog 48 = some ⟨.oth, 1, 8, [.nilF]⟩ := by kernel_rfl
theorem ty49 : tiOf Tryd.prog 49 = some ⟨.str, 3, 56, [.nil, .int .i64 0, .nil]⟩ := by kernel_rfl
theorem ty50 : tiOf Tryd.prog 50 = some ⟨.str, 3, 56, [.nil, .int .i64 0, .nil]⟩ := by kernel_rfl
theorem ty51 : tiOf Tryd.prog 51 = some ⟨.str, 3, 32, [.str ⟨#[]⟩, .int .i64 0, .bool false]⟩ := by kernel_rfl
theorem ty52 : tiOf Tryd.prog 52 = some ⟨.str, 3, 32, [.str ⟨#[]⟩, .int .i64 0, .bool false]⟩ := by kernel_rfl
theorem ty53 : tiOf Tryd.prog 53 = some ⟨.oth, 1, 8, [.nilF]⟩ := by kernel_rfl
theorem ty54 : tiOf Tryd.prog 54 = some ⟨.oth, 1, 8, [.nilF]⟩ := by kernel_rfl
theorem ty55 : tiOf Tryd.prog 55 = some ⟨.oth, 1, 8, [.nilF]⟩ := by kernel_rfl
theorem ty56 : tiOf Tryd.prog 56 = some ⟨.oth, 1, 8, [.nilF]⟩ := by kernel_rfl
theorem ty57 : tiOf Tryd.prog 57 = some ⟨.str, 2, 32, [.bool false, .nil]⟩ := by kernel_rfl
theorem ty58 : tiOf Tryd.prog 58 = some ⟨.str, 2, 32, [.bool false, .nil]⟩ := by kernel_rfl
theorem ty59 : tiOf Tryd.prog 59 = some ⟨.arr 4 58, 8, 128, [.bool false, .nil, .bool false, .nil, .bool false, .nil, .bool false, .nil]⟩ := by kernel_rfl
theorem ty60 : tiOf Tryd.prog 60 = some ⟨.arr 2 59, 16, 256, [.bool false, .nil, .bool false, .nil, .bool false, .nil, .bool false, .nil, .bool false, .nil, .bool false, .nil, .bool false, .nil, .bool false, .nil]⟩ := by kernel_rfl
theorem ty61 : tiOf Tryd.prog 61 = some ⟨.str, 19, 304, [.bool false, .str ⟨#[]⟩, .nil, .bool false, .nil, .bool false, .nil, .bool false, .nil, .bool false, .nil, .bool false, .nil, .bool false, .nil, .bool false, .nil, .bool false, .nil]⟩ := by kernel_rfl
theorem ty62 : tiOf Tryd.prog 62 = some ⟨.str, 19, 304, [.bool false, .str ⟨#[]⟩, .nil, .bool false, .nil, .bool false, .nil, .bool false, .nil, .bool false, .nil, .bool false, .nil, .bool false, .nil, .bool false, .nil, .bool false, .nil]⟩ := by kernel_rfl
theorem ty64 : tiOf Tryd.prog 64 = some ⟨.oth, 1, 8, [.nilF]⟩ := by kernel_rfl
theorem ty66 : tiOf Tryd.prog 66 = some ⟨.oth, 1, 8, [.nilF]⟩ := by kernel_rfl
theorem ty67 : tiOf Tryd.prog 67 = some ⟨.slc 36, 1, 24, [.nil]⟩ := by kernel_rfl
theorem ty69 : tiOf Tryd.prog 69 = some ⟨.oth, 1, 8, [.nilF]⟩ := by kernel_rfl
theorem ty70 : tiOf Tryd.prog 70 = some ⟨.arr 2 4, 2, 2, [.bool false, .bool false]⟩ := by kernel_rfl
theorem ty71 : tiOf Tryd.prog 71 = some ⟨.oth, 1, 8, [.nilF]⟩ := by kernel_rfl
theorem ty72 : tiOf Tryd.prog 72 = some ⟨.oth, 1, 8, [.nilF]⟩ := by kernel_rfl
theorem ty73 : tiOf Tryd.prog 73 = some ⟨.oth, 1, 8, [.nilF]⟩ := by kernel_rfl
theorem ty74 : tiOf Tryd.prog 74 = some ⟨.oth, 1, 8, [.nilF]⟩ := by kernel_rfl
theorem ty75 : tiOf Tryd.prog 75 = some ⟨.oth, 1, 8, [.nilF]⟩ := by kernel_rfl
theorem ty76 : tiOf Tryd.prog 76 = some ⟨.oth, 1, 8, [.nilF]⟩ := by kernel_rfl
theorem ty78 : tiOf Tryd.prog 78 = some ⟨.oth, 1, 8, [.nilF]⟩ := by kernel_rfl
theorem ty80 : tiOf Tryd.prog 80 = some ⟨.oth, 1, 8, [.nilF]⟩ := by kernel_rfl
theorem ty81 : tiOf Tryd.prog 81 = some ⟨.oth, 1, 8, [.nilF]⟩ := by kernel_rfl
theorem ty82 : tiOf Tryd.prog 82 = some ⟨.oth, 1, 8, [.nilF]⟩ := by kernel_rfl
theorem ty83 : tiOf Tryd.prog 83 = some ⟨.str, 8, 104, [.str ⟨#[]⟩, .int .i64 0, .int .i64 0, .int .i64 0, .int .u64 0, .str ⟨#[]⟩, .str ⟨#[]⟩, .nil]⟩ := by kernel_rfl
theorem ty84 : tiOf Tryd.prog 84 = some ⟨.str, 8, 104, [.str ⟨#[]⟩, .int .i64 0, .int .i64 0, .int .i64 0, .int .u64 0, .str ⟨#[]⟩, .str ⟨#[]⟩, .nil]⟩ := by kernel_rfl
theorem ty85 : tiOf Tryd.prog 85 = some ⟨.slc 84, 1, 24, [.nil]⟩ := by kernel_rfl
theorem ty86 : tiOf Tryd.prog 86 = some ⟨.slc 3, 1, 24, [.nil]⟩ := by kernel_rfl
theorem ty87 : tiOf Tryd.prog 87 = some ⟨.oth, 1, 8, [.nilF]⟩ := by kernel_rfl
theorem ty88 : tiOf Tryd.prog 88 = some ⟨.oth, 1, 8, [.nilF]⟩ := by kernel_rfl
theorem ty89 : tiOf Tryd.prog 89 = some ⟨.oth, 1, 8, [.nilF]⟩ := by kernel_rfl
theorem ty90 : tiOf Tryd.prog 90 = some ⟨.oth, 1, 8, [.nilF]⟩ := by kernel_rfl
theorem ty91 : tiOf Tryd.prog 91 = some ⟨.oth, 1, 8, [.nilF]⟩ := by kernel_rfl
theorem ty92 : tiOf Tryd.prog 92 = some ⟨.oth, 1, 8, [.nilF]⟩ := by kernel_rfl
theorem ty93 : tiOf Tryd.prog 93 = some ⟨.oth, 1, 16, [.nilI]⟩ := by kernel_rfl
theorem ty94 : tiOf Tryd.prog 94 = some ⟨.oth, 1, 16, [.nilI]⟩ := by kernel_rfl
theorem ty95 : tiOf Tryd.prog 95 = some ⟨.oth, 1, 8, [.nilF]⟩ := by kernel_rfl
theorem ty96 : tiOf Tryd.prog 96 = some ⟨.oth, 1, 8, [.nilF]⟩ := by kernel_rfl
theorem ty97 : tiOf Tryd.prog 97 = some ⟨.oth, 1, 8, [.nilF]⟩ := by kernel_rfl
theorem ty98 : tiOf Tryd.prog 98 = some ⟨.oth, 1, 8, [.nilF]⟩ := by kernel_rfl
theorem ty99 : tiOf Tryd.prog 99 = some ⟨.oth, 1, 8, [.nilF]⟩ := by kernel_rfl
theorem ty100 : tiOf Tryd.prog 100 = some ⟨.oth, 1, 8, [.nilF]⟩ := by kernel_rfl
theorem ty101 : tiOf Tryd.prog 101 = some ⟨.oth, 1, 8, [.nilF]⟩ := by kernel_rfl
theorem ty102 : tiOf Tryd.prog 102 = some ⟨.oth, 1, 8, [.nilF]⟩ := by kernel_rfl
theorem ty103 : tiOf Tryd.prog 103 = some ⟨.oth, 1, 8, [.nilF]⟩ := by kernel_rfl
theorem ty104 : tiOf Tryd.prog 104 = some ⟨.str, 4, 40, [.int .i64 0, .str ⟨#[]⟩, .int .i64 0, .int .u64 0]⟩ := by kernel_rfl
theorem ty105 : tiOf Tryd.prog 105 = some ⟨.str, 4, 40, [.int .i64 0, .str ⟨#[]⟩, .int .i64 0, .int .u64 0]⟩ := by kernel_rfl
theorem ty106 : tiOf Tryd.prog 106 = some ⟨.oth, 1, 8, [.nilF]⟩ := by kernel_rfl
theorem ty107 : tiOf Tryd.prog 107 = some ⟨.oth, 1, 8, [.nilF]⟩ := by kernel_rfl
theorem ty108 : tiOf Tryd.prog 108 = some ⟨.oth, 1, 8, [.nilF]⟩ := by kernel_rfl
theorem ty109 : tiOf Tryd.prog 109 = some ⟨.oth, 1, 8, [.nilF]⟩ := by kernel_rfl
theorem ty111 : tiOf Tryd.prog 111 = some ⟨.oth, 1, 8, [.nilF]⟩ := by kernel_rfl
theorem ty112 : tiOf Tryd.prog 112 = some ⟨.oth, 1, 8, [.nilF]⟩ := by kernel_rfl
theorem ty114 : tiOf Tryd.prog 114 = some ⟨.oth, 1, 8, [.nilF]⟩ := by kernel_rfl
theorem ty116 : tiOf Tryd.prog 116 = some ⟨.oth, 1, 8, [.nilF]⟩ := by kernel_rfl
theorem ty117 : tiOf Tryd.prog 117 = some ⟨.oth, 1, 8, [.nilF]⟩ := by kernel_rfl
theorem ty118 : tiOf Tryd.prog 118 = some ⟨.oth, 1, 8, [.nilF]⟩ := by kernel_rfl
theorem ty119 : tiOf Tryd.prog 119 = some ⟨.oth, 1, 8, [.nilF]⟩ := by kernel_rfl
theorem ty120 : tiOf Tryd.prog 120 = some ⟨.str, 2, 24, [.int .i64 0, .nilI]⟩ := by kernel_rfl
theorem ty121 : tiOf Tryd.prog 121 = some ⟨.str, 2, 24, [.int .i64 0, .nilI]⟩ := by kernel_rfl
theorem ty122 : tiOf Tryd.prog 122 = some ⟨.str, 3, 40, [.int .i64 0, .nilI, .nilI]⟩ := by kernel_rfl
theorem ty123 : tiOf Tryd.prog 123 = some ⟨.str, 3, 40, [.int .i64 0, .nilI, .nilI]⟩ := by kernel_rfl
theorem ty124 : tiOf Tryd.prog 124 = some ⟨.str, 4, 40, [.int .i64 0, .int .i64 0, .int .u64 0, .str ⟨#[]⟩]⟩ := by kernel_rfl
theorem ty125 : tiOf Tryd.prog 125 = some ⟨.str, 4, 40, [.int .i64 0, .int .i64 0, .int .u64 0, .str ⟨#[]⟩]⟩ := by kernel_rfl
theorem ty126 : tiOf Tryd.prog 126 = some ⟨.str, 1, 8, [.int .i64 0]⟩ := by kernel_rfl
theorem ty127 : tiOf Tryd.prog 127 = some ⟨.str, 1, 8, [.int .i64 0]⟩ := by kernel_rfl
theorem ty128 : tiOf Tryd.prog 128 = some ⟨.str, 0, 0, []⟩ := by kernel_rfl
theorem ty129 : tiOf Tryd.prog 129 = some ⟨.str, 0, 0, []⟩ := by kernel_rfl
theorem ty130 : tiOf Tryd.prog 130 = some ⟨.oth, 1, 8, [.nilF]⟩ := by kernel_rfl
theorem ty131 : tiOf Tryd.prog 131 = some ⟨.oth, 1, 8, [.nilF]⟩ := by kernel_rfl
theorem ty132 : tiOf Tryd.prog 132 = some ⟨.oth, 1, 8, [.nilF]⟩ := by kernel_rfl
theorem ty133 : tiOf Tryd.prog 133 = some ⟨.oth, 1, 8, [.nilF]⟩ := by kernel_rfl
theorem ty134 : tiOf Tryd.prog 134 = some ⟨.oth, 1, 8, [.nilF]⟩ := by kernel_rfl
theorem ty135 : tiOf Tryd.prog 135 = some ⟨.oth, 1, 8, [.nilF]⟩ := by kernel_rfl
theorem ty136 : tiOf Tryd.prog 136 = some ⟨.oth, 1, 8, [.nilF]⟩ := by kernel_rfl
theorem ty137 : tiOf Tryd.prog 137 = some ⟨.slc 58, 1, 24, [.nil]⟩ := by kernel_rfl
theorem ty139 : tiOf Tryd.prog 139 = some ⟨.oth, 1, 8, [.nilF]⟩ := by kernel_rfl
theorem ty140 : tiOf Tryd.prog 140 = some ⟨.oth, 1, 8, [.nilF]⟩ := by kernel_rfl
theorem ty141 : tiOf Tryd.prog 141 = some ⟨.int .u64, 1, 8, [.int .u64 0]⟩ := by kernel_rfl
theorem ty142 : tiOf Tryd.prog 142 = some ⟨.oth, 1, 8, [.nilF]⟩ := by kernel_rfl
theorem ty143 : tiOf Tryd.prog 143 = some ⟨.arr 256 5, 256, 256, List.replicate 256 (.int .u8 0)⟩ := by kernel_rfl
theorem ty144 : tiOf Tryd.prog 144 = some ⟨.str, 2, 2, [.int .u8 0, .int .u8 0]⟩ := by kernel_rfl
theorem ty145 : tiOf Tryd.prog 145 = some ⟨.str, 2, 2, [.int .u8 0, .int .u8 0]⟩ := by kernel_rfl
theorem ty146 : tiOf Tryd.prog 146 = some ⟨.arr 16 145, 32, 32, List.replicate 32 (.int .u8 0)⟩ := by kernel_rfl
theorem ty147 : tiOf Tryd.prog 147 = some ⟨.flt, 1, 8, [.flt .f64 0]⟩ := by kernel_rfl
theorem ty148 : tiOf Tryd.prog 148 = some ⟨.oth, 1, 8, [.nilF]⟩ := by kernel_rfl
theorem ty149 : tiOf Tryd.prog 149 = some ⟨.oth, 1, 8, [.nilF]⟩ := by kernel_rfl
theorem ty150 : tiOf Tryd.prog 150 = some ⟨.str, 2, 16, [.int .i64 0, .bool false]⟩ := by kernel_rfl
theorem ty151 : tiOf Tryd.prog 151 = some ⟨.str, 2, 16, [.int .i64 0, .bool false]⟩ := by kernel_rfl
theorem ty153 : tiOf Tryd.prog 153 = some ⟨.oth, 1, 8, [.nilF]⟩ := by kernel_rfl
theorem ty154 : tiOf Tryd.prog 154 = some ⟨.oth, 1, 8, [.nilF]⟩ := by kernel_rfl
theorem ty155 : tiOf Tryd.prog 155 = some ⟨.arr 2 151, 4, 32, [.int .i64 0, .bool false, .int .i64 0, .bool false]⟩ := by kernel_rfl
theorem ty156 : tiOf Tryd.prog 156 = some ⟨.oth, 1, 8, [.nilF]⟩ := by kernel_rfl
theorem ty157 : tiOf Tryd.prog 157 = some ⟨.slc 151, 1, 24, [.nil]⟩ := by kernel_rfl
theorem ty158 : tiOf Tryd.prog 158 = some ⟨.oth, 1, 8, [.nilF]⟩ := by kernel_rfl
theorem ty159 : tiOf Tryd.prog 159 = some ⟨.oth, 1, 8, [.nilF]⟩ := by kernel_rfl
theorem ty160 : tiOf Tryd.prog 160 = some ⟨.oth, 1, 8, [.nilF]⟩ := by kernel_rfl
theorem ty161 : tiOf Tryd.prog 161 = some ⟨.oth, 1, 8, [.nilF]⟩ := by kernel_rfl
theorem ty164 : tiOf Tryd.prog 164 = some ⟨.arr 0 16, 0, 0, []⟩ := by kernel_rfl
theorem ty165 : tiOf Tryd.prog 165 = some ⟨.str, 0, 0, []⟩ := by kernel_rfl
theorem ty166 : tiOf Tryd.prog 166 = some ⟨.str, 0, 0, []⟩ := by kernel_rfl
theorem ty167 : tiOf Tryd.prog 167 = some ⟨.oth, 1, 8, [.nilF]⟩ := by kernel_rfl
theorem ty168 : tiOf Tryd.prog 168 = some ⟨.int .u32, 1, 4, [.int .u32 0]⟩ := by kernel_rfl
theorem ty169 : tiOf Tryd.prog 169 = some ⟨.int .u8, 1, 1, [.int .u8 0]⟩ := by kernel_rfl
theorem ty170 : tiOf Tryd.prog 170 = some ⟨.int .u8, 1, 1, [.int .u8 0]⟩ := by kernel_rfl
theorem ty171 : tiOf Tryd.prog 171 = some ⟨.oth, 1, 8, [.nilF]⟩ := by kernel_rfl
theorem ty173 : tiOf Tryd.prog 173 = some ⟨.int .i32, 1, 4, [.int .i32 0]⟩ := by kernel_rfl
theorem ty174 : tiOf Tryd.prog 174 = some ⟨.int .i32, 1, 4, [.int .i32 0]⟩ := by kernel_rfl
theorem ty177 : tiOf Tryd.prog 177 = some ⟨.oth, 1, 8, [.nilF]⟩ := by kernel_rfl
theorem ty178 : tiOf Tryd.prog 178 = some ⟨.oth, 1, 8, [.nilF]⟩ := by kernel_rfl
theorem ty179 : tiOf Tryd.prog 179 = some ⟨.oth, 1, 8, [.nilF]⟩ := by kernel_rfl
theorem ty180 : tiOf Tryd.prog 180 = some ⟨.oth, 1, 8, [.nilF]⟩ := by kernel_rfl
theorem ty181 : tiOf Tryd.prog 181 = some ⟨.oth, 1, 8, [.nilF]⟩ := by kernel_rfl
theorem ty182 : tiOf Tryd.prog 182 = some ⟨.oth, 1, 8, [.nilF]⟩ := by kernel_rfl
theorem ty184 : tiOf Tryd.prog 184 = some ⟨.oth, 1, 8, [.nilF]⟩ := by kernel_rfl
theorem ty185 : tiOf Tryd.prog 185 = some ⟨.oth, 1, 8, [.nilF]⟩ := by kernel_rfl
theorem ty186 : tiOf Tryd.prog 186 = some ⟨.oth, 1, 8, [.nilF]⟩ := by kernel_rfl
theorem ty187 : tiOf Tryd.prog 187 = some ⟨.oth, 1, 8, [.nilF]⟩ := by kernel_rfl
theorem ty188 : tiOf Tryd.prog 188 = some ⟨.oth, 1, 8, [.nilF]⟩ := by kernel_rfl
theorem ty189 : tiOf Tryd.prog 189 = some ⟨.oth, 1, 8, [.nilF]⟩ := by kernel_rfl
theorem ty190 : tiOf Tryd.prog 190 = some ⟨.oth, 1, 8, [.nilF]⟩ := by kernel_rfl
theorem ty191 : tiOf Tryd.prog 191 = some ⟨.oth, 1, 8, [.nilF]⟩ := by kernel_rfl
theorem ly7 : laysOf Tryd.prog 7 = some [(0, 1), (1, 1), (2, 1), (3, 1)] := by kernel_rfl
theorem ly8 : laysOf Tryd.prog 8 = some [(0, 1), (1, 1), (2, 1), (3, 1)] := by kernel_rfl
theorem ly13 : laysOf Tryd.prog 13 = some [(0, 1), (1, 1)] := by kernel_rfl
theorem ly14 : laysOf Tryd.prog 14 = some [(0, 1), (1, 1)] := by kernel_rfl
theorem ly24 : laysOf Tryd.prog 24 = some [(0, 1), (1, 1), (2, 1), (3, 1)] := by kernel_rfl
theorem ly25 : laysOf Tryd.prog 25 = some [(0, 1), (1, 1), (2, 1), (3, 1)] := by kernel_rfl
theorem ly27 : laysOf Tryd.prog 27 = some [(0, 1), (1, 4), (5, 1), (6, 1)] := by kernel_rfl
theorem ly28 : laysOf Tryd.prog 28 = some [(0, 1), (1, 4), (5, 1), (6, 1)] := by kernel_rfl
theorem ly30 : laysOf Tryd.prog 30 = some [(0, 1), (1, 1), (2, 1), (3, 1)] := by kernel_rfl
theorem ly31 : laysOf Tryd.prog 31 = some [(0, 1), (1, 1), (2, 1), (3, 1)] := by kernel_rfl
theorem ly39 : laysOf Tryd.prog 39 = some [(0, 1), (1, 1)] := by kernel_rfl
theorem ly40 : laysOf Tryd.prog 40 = some [(0, 1), (1, 1)] := by kernel_rfl
theorem ly49 : laysOf Tryd.prog 49 = some [(0, 1), (1, 1), (2, 1)] := by kernel_rfl
theorem ly50 : laysOf Tryd.prog 50 = some [(0, 1), (1, 1), (2, 1)] := by kernel_rfl
theorem ly51 : laysOf Tryd.prog 51 = some [(0, 1), (1, 1), (2, 1)] := by kernel_rfl
theorem ly52 : laysOf Tryd.prog 52 = some [(0, 1), (1, 1), (2, 1)] := by kernel_rfl
theorem ly57 : laysOf Tryd.prog 57 = some [(0, 1), (1, 1)] := by kernel_rfl
theorem ly58 : laysOf Tryd.prog 58 = some [(0, 1), (1, 1)] := by kernel_rfl
theorem ly61 : laysOf Tryd.prog 61 = some [(0, 1), (1, 1), (2, 1), (3, 16)] := by kernel_rfl
theorem ly62 : laysOf Tryd.prog 62 = some [(0, 1), (1, 1), (2, 1), (3, 16)] := by kernel_rfl
theorem ly83 : laysOf Tryd.prog 83 = some [(0, 1), (1, 7)] := by kernel_rfl
theorem ly84 : laysOf Tryd.prog 84 = some [(0, 1), (1, 7)] := by kernel_rfl
theorem ly104 : laysOf Tryd.prog 104 = some [(0, 1), (1, 1), (2, 1), (3, 1)] := by kernel_rfl
theorem ly105 : laysOf Tryd.prog 105 = some [(0, 1), (1, 1), (2, 1), (3, 1)] := by kernel_rfl
theorem ly120 : laysOf Tryd.prog 120 = some [(0, 1), (1, 1)] := by kernel_rfl
theorem ly121 : laysOf Tryd.prog 121 = some [(0, 1), (1, 1)] := by kernel_rfl
theorem ly122 : laysOf Tryd.prog 122 = some [(0, 1), (1, 1), (2, 1)] := by kernel_rfl
theorem ly123 : laysOf Tryd.prog 123 = some [(0, 1), (1, 1), (2, 1)] := by kernel_rfl
theorem ly124 : laysOf Tryd.prog 124 = some [(0, 4)] := by kernel_rfl
theorem ly125 : laysOf Tryd.prog 125 = some [(0, 4)] := by kernel_rfl
theorem ly126 : laysOf Tryd.prog 126 = some [(0, 1)] := by kernel_rfl
theorem ly127 : laysOf Tryd.prog 127 = some [(0, 1)] := by kernel_rfl
theorem ly128 : laysOf Tryd.prog 128 = some [] := by kernel_rfl
theorem ly129 : laysOf Tryd.prog 129 = some [] := by kernel_rfl
theorem ly144 : laysOf Tryd.prog 144 = some [(0, 1), (1, 1)] := by kernel_rfl
theorem ly145 : laysOf Tryd.prog 145 = some [(0, 1), (1, 1)] := by kernel_rfl
theorem ly150 : laysOf Tryd.prog 150 = some [(0, 1), (1, 1)] := by kernel_rfl
theorem ly151 : laysOf Tryd.prog 151 = some [(0, 1), (1, 1)] := by kernel_rfl
theorem ly165 : laysOf Tryd.prog 165 = some [(0, 0)] := by kernel_rfl
theorem ly166 : laysOf Tryd.prog 166 = some [(0, 0)] := by kernel_rfl
def tyT : List (Nat × TI) := [(1, ⟨.oth, 1, 8, [.nilF]⟩), (2, ⟨.int .i64, 1, 8, [.int .i64 0]⟩), (3, ⟨.int .i64, 1, 8, [.int .i64 0]⟩), (4, ⟨.bool, 1, 1, [.bool false]⟩), (5, ⟨.int .u8, 1, 1, [.int .u8 0]⟩), (6, ⟨.int .u8, 1, 1, [.int .u8 0]⟩), (7, ⟨.str, 4, 24, [.int .i64 0, .int .i64 0, .bool false, .int .u8 0]⟩), (8, ⟨.str, 4, 24, [.int .i64 0, .int .i64 0, .bool false, .int .u8 0]⟩), (9, ⟨.strg, 1, 16, [.str ⟨#[]⟩]⟩), (10, ⟨.strg, 1, 16, [.str ⟨#[]⟩]⟩), (11, ⟨.strg, 1, 16, [.str ⟨#[]⟩]⟩), (12, ⟨.int .u64, 1, 8, [.int .u64 0]⟩), (13, ⟨.str, 2, 24, [.str ⟨#[]⟩, .int .u64 0]⟩), (14, ⟨.str, 2, 24, [.str ⟨#[]⟩, .int .u64 0]⟩), (20, ⟨.oth, 1, 16, [.nilI]⟩), (21, ⟨.int .i32, 1, 4, [.int .i32 0]⟩), (22, ⟨.slc 31, 1, 24, [.nil]⟩), (23, ⟨.int .u64, 1, 8, [.int .u64 0]⟩), (24, ⟨.str, 4, 40, [.int .i64 0, .int .i64 0, .int .u64 0, .str ⟨#[]⟩]⟩), (25, ⟨.str, 4, 40, [.int .i64 0, .int .i64 0, .int .u64 0, .str ⟨#[]⟩]⟩), (26, ⟨.slc 28, 1, 24, [.nil]⟩), (27, ⟨.str, 7, 88, [.int .i64 0, .int .i64 0, .int .i64 0, .int .u64 0, .str ⟨#[]⟩, .str ⟨#[]⟩, .nil]⟩), (28, ⟨.str, 7, 88, [.int .i64 0, .int .i64 0, .int .i64 0, .int .u64 0, .str ⟨#[]⟩, .str ⟨#[]⟩, .nil]⟩), (29, ⟨.oth, 1, 8, [.nilF]⟩), (30, ⟨.str, 4, 40, [.int .i64 0, .int .i64 0, .int .i64 0, .str ⟨#[]⟩]⟩), (31, ⟨.str, 4, 40, [.int .i64 0, .int .i64 0, .int .i64 0, .str ⟨#[]⟩]⟩), (32, ⟨.oth, 1, 8, [.nilF]⟩), (33, ⟨.oth, 1, 8, [.nilF]⟩), (34, ⟨.oth, 1, 8, [.nilF]⟩), (35, ⟨.slc 52, 1, 24, [.nil]⟩), (36, ⟨.slc 25, 1, 24, [.nil]⟩), (38, ⟨.oth, 1, 8, [.nilF]⟩), (39, ⟨.str, 2, 16, [.int .i64 0, .int .i64 0]⟩), (40, ⟨.str, 2, 16, [.int .i64 0, .int .i64 0]⟩), (41, ⟨.int .i64, 1, 8, [.int .i64 0]⟩), (43, ⟨.oth, 1, 8, [.nilF]⟩), (45, ⟨.oth, 1, 8, [.nilF]⟩), (46, ⟨.oth, 1, 8, [.nilF]⟩), (48, ⟨.oth, 1, 8, [.nilF]⟩), (49, ⟨.str, 3, 56, [.nil, .int .i64 0, .nil]⟩), (50, ⟨.str, 3, 56, [.nil, .int .i64 0, .nil]⟩), (51, ⟨.str, 3, 32, [.str ⟨#[]⟩, .int .i64 0, .bool false]⟩), (52, ⟨.str, 3, 32, [.str ⟨#[]⟩, .int .i64 0, .bool false]⟩), (53, ⟨.oth, 1, 8, [.nilF]⟩), (54, ⟨.oth, 1, 8, [.nilF]⟩), (55, ⟨.oth, 1, 8, [.nilF]⟩), (56, ⟨.oth, 1, 8, [.nilF]⟩), (57, ⟨.str, 2, 32, [.bool false, .nil]⟩), (58, ⟨.str, 2, 32, [.bool false, .nil]⟩), (59, ⟨.arr 4 58, 8, 128, [.bool false, .nil, .bool false, .nil, .bool false, .nil, .bool false, .nil]⟩), (60, ⟨.arr 2 59, 16, 256, [.bool false, .nil, .bool false, .nil, .bool false, .nil, .bool false, .nil, .bool false, .nil, .bool false, .nil, .bool false, .nil, .bool false, .nil]⟩), (61, ⟨.str, 19, 304, [.bool false, .str ⟨#[]⟩, .nil, .bool false, .nil, .bool false, .nil, .bool false, .nil, .bool false, .nil, .bool false, .nil, .bool false, .nil, .bool false, .nil, .bool false, .nil]⟩), (62, ⟨.str, 19, 304, [.bool false, .str ⟨#[]⟩, .nil, .bool false, .nil, .bool false, .nil, .bool false, .nil, .bool false, .nil, .bool false, .nil, .bool false, .nil, .bool false, .nil, .bool false, .nil]⟩), (64, ⟨.oth, 1, 8, [.nilF]⟩), (66, ⟨.oth, 1, 8, [.nilF]⟩), (67, ⟨.slc 36, 1, 24, [.nil]⟩), (69, ⟨.oth, 1, 8, [.nilF]⟩), (70, ⟨.arr 2 4, 2, 2, [.bool false, .bool false]⟩), (71, ⟨.oth, 1, 8, [.nilF]⟩), (72, ⟨.oth, 1, 8, [.nilF]⟩), (73, ⟨.oth, 1, 8, [.nilF]⟩), (74, ⟨.oth, 1, 8, [.nilF]⟩), (75, ⟨.oth, 1, 8, [.nilF]⟩), (76, ⟨.oth, 1, 8, [.nilF]⟩), (78, ⟨.oth, 1, 8, [.nilF]⟩), (80, ⟨.oth, 1, 8, [.nilF]⟩), (81, ⟨.oth, 1, 8, [.nilF]⟩), (82, ⟨.oth, 1, 8, [.nilF]⟩), (83, ⟨.str, 8, 104, [.str ⟨#[]⟩, .int .i64 0, .int .i64 0, .int .i64 0, .int .u64 0, .str ⟨#[]⟩, .str ⟨#[]⟩, .nil]⟩), (84, ⟨.str, 8, 104, [.str ⟨#[]⟩, .int .i64 0, .int .i64 0, .int .i64 0, .int .u64 0, .str ⟨#[]⟩, .str ⟨#[]⟩, .nil]⟩), (85, ⟨.slc 84, 1, 24, [.nil]⟩), (86, ⟨.slc 3, 1, 24, [.nil]⟩), (87, ⟨.oth, 1, 8, [.nilF]⟩), (88, ⟨.oth, 1, 8, [.nilF]⟩), (89, ⟨.oth, 1, 8, [.nilF]⟩), (90, ⟨.oth, 1, 8, [.nilF]⟩), (91, ⟨.oth, 1, 8, [.nilF]⟩), (92, ⟨.oth, 1, 8, [.nilF]⟩), (93, ⟨.oth, 1, 16, [.nilI]⟩), (94, ⟨.oth, 1, 16, [.nilI]⟩), (95, ⟨.oth, 1, 8, [.nilF]⟩), (96, ⟨.oth, 1, 8, [.nilF]⟩), (97, ⟨.oth, 1, 8, [.nilF]⟩), (98, ⟨.oth, 1, 8, [.nilF]⟩), (99, ⟨.oth, 1, 8, [.nilF]⟩), (100, ⟨.oth, 1, 8, [.nilF]⟩), (101, ⟨.oth, 1, 8, [.nilF]⟩), (102, ⟨.oth, 1, 8, [.nilF]⟩), (103, ⟨.oth, 1, 8, [.nilF]⟩), (104, ⟨.str, 4, 40, [.int .i64 0, .str ⟨#[]⟩, .int .i64 0, .int .u64 0]⟩), (105, ⟨.str, 4, 40, [.int .i64 0, .str ⟨#[]⟩, .int .i64 0, .int .u64 0]⟩), (106, ⟨.oth, 1, 8, [.nilF]⟩), (107, ⟨.oth, 1, 8, [.nilF]⟩), (108, ⟨.oth, 1, 8, [.nilF]⟩), (109, ⟨.oth, 1, 8, [.nilF]⟩), (111, ⟨.oth, 1, 8, [.nilF]⟩), (112, ⟨.oth, 1, 8, [.nilF]⟩), (114, ⟨.oth, 1, 8, [.nilF]⟩), (116, ⟨.oth, 1, 8, [.nilF]⟩), (117, ⟨.oth, 1, 8, [.nilF]⟩), (118, ⟨.oth, 1, 8, [.nilF]⟩), (119, ⟨.oth, 1, 8, [.nilF]⟩), (120, ⟨.str, 2, 24, [.int .i64 0, .nilI]⟩), (121, ⟨.str, 2, 24, [.int .i64 0, .nilI]⟩), (122, ⟨.str, 3, 40, [.int .i64 0, .nilI, .nilI]⟩), (123, ⟨.str, 3, 40, [.int .i64 0, .nilI, .nilI]⟩), (124, ⟨.str, 4, 40, [.int .i64 0, .int .i64 0, .int .u64 0, .str ⟨#[]⟩]⟩), (125, ⟨.str, 4, 40, [.int .i64 0, .int .i64 0, .int .u64 0, .str ⟨#[]⟩]⟩), (126, ⟨.str, 1, 8, [.int .i64 0]⟩), (127, ⟨.str, 1, 8, [.int .i64 0]⟩), (128, ⟨.str, 0, 0, []⟩), (129, ⟨.str, 0, 0, []⟩), (130, ⟨.oth, 1, 8, [.nilF]⟩), (131, ⟨.oth, 1, 8, [.nilF]⟩), (132, ⟨.oth, 1, 8, [.nilF]⟩), (133, ⟨.oth, 1, 8, [.nilF]⟩), (134, ⟨.oth, 1, 8, [.nilF]⟩), (135, ⟨.oth, 1, 8, [.nilF]⟩), (136, ⟨.oth, 1, 8, [.nilF]⟩), (137, ⟨.slc 58, 1, 24, [.nil]⟩), (139, ⟨.oth, 1, 8, [.nilF]⟩), (140, ⟨.oth, 1, 8, [.nilF]⟩), (141, ⟨.int .u64, 1, 8, [.int .u64 0]⟩), (142, ⟨.oth, 1, 8, [.nilF]⟩), (143, ⟨.arr 256 5, 256, 256, List.replicate 256 (.int .u8 0)⟩), (144, ⟨.str, 2, 2, [.int .u8 0, .int .u8 0]⟩), (145, ⟨.str, 2, 2, [.int .u8 0, .int .u8 0]⟩), (146, ⟨.arr 16 145, 32, 32, List.replicate 32 (.int .u8 0)⟩), (147, ⟨.flt, 1, 8, [.flt .f64 0]⟩), (148, ⟨.oth, 1, 8, [.nilF]⟩), (149, ⟨.oth, 1, 8, [.nilF]⟩), (150, ⟨.str, 2, 16, [.int .i64 0, .bool false]⟩), (151, ⟨.str, 2, 16, [.int .i64 0, .bool false]⟩), (153, ⟨.oth, 1, 8, [.nilF]⟩), (154, ⟨.oth, 1, 8, [.nilF]⟩), (155, ⟨.arr 2 151, 4, 32, [.int .i64 0, .bool false, .int .i64 0, .bool false]⟩), (156, ⟨.oth, 1, 8, [.nilF]⟩), (157, ⟨.slc 151, 1, 24, [.nil]⟩), (158, ⟨.oth, 1, 8, [.nilF]⟩), (159, ⟨.oth, 1, 8, [.nilF]⟩), (160, ⟨.oth, 1, 8, [.nilF]⟩), (161, ⟨.oth, 1, 8, [.nilF]⟩), (164, ⟨.arr 0 16, 0, 0, []⟩), (165, ⟨.str, 0, 0, []⟩), (166, ⟨.str, 0, 0, []⟩), (167, ⟨.oth, 1, 8, [.nilF]⟩), (168, ⟨.int .u32, 1, 4, [.int .u32 0]⟩), (169, ⟨.int .u8, 1, 1, [.int .u8 0]⟩), (170, ⟨.int .u8, 1, 1, [.int .u8 0]⟩), (171, ⟨.oth, 1, 8, [.nilF]⟩), (173, ⟨.int .i32, 1, 4, [.int .i32 0]⟩), (174, ⟨.int .i32, 1, 4, [.int .i32 0]⟩), (177, ⟨.oth, 1, 8, [.nilF]⟩), (178, ⟨.oth, 1, 8, [.nilF]⟩), (179, ⟨.oth, 1, 8, [.nilF]⟩), (180, ⟨.oth, 1, 8, [.nilF]⟩), (181, ⟨.oth, 1, 8, [.nilF]⟩), (182, ⟨.oth, 1, 8, [.nilF]⟩), (184, ⟨.oth, 1, 8, [.nilF]⟩), (185, ⟨.oth, 1, 8, [.nilF]⟩), (186, ⟨.oth, 1, 8, [.nilF]⟩), (187, ⟨.oth, 1, 8, [.nilF]⟩), (188, ⟨.oth, 1, 8, [.nilF]⟩), (189, ⟨.oth, 1, 8, [.nilF]⟩), (190, ⟨.oth, 1, 8, [.nilF]⟩), (191, ⟨.oth, 1, 8, [.nilF]⟩)]
def lyT : List (Nat × List (Nat × Nat)) := [(7, [(0, 1), (1, 1), (2, 1), (3, 1)]), (8, [(0, 1), (1, 1), (2, 1), (3, 1)]), (13, [(0, 1), (1, 1)]), (14, [(0, 1), (1, 1)]), (24, [(0, 1), (1, 1), (2, 1), (3, 1)]), (25, [(0, 1), (1, 1), (2, 1), (3, 1)]), (27, [(0, 1), (1, 4), (5, 1), (6, 1)]), (28, [(0, 1), (1, 4), (5, 1), (6, 1)]), (30, [(0, 1), (1, 1), (2, 1), (3, 1)]), (31, [(0, 1), (1, 1), (2, 1), (3, 1)]), (39, [(0, 1), (1, 1)]), (40, [(0, 1), (1, 1)]), (49, [(0, 1), (1, 1), (2, 1)]), (50, [(0, 1), (1, 1), (2, 1)]), (51, [(0, 1), (1, 1), (2, 1)]), (52, [(0, 1), (1, 1), (2, 1)]), (57, [(0, 1), (1, 1)]), (58, [(0, 1), (1, 1)]), (61, [(0, 1), (1, 1), (2, 1), (3, 16)]), (62, [(0, 1), (1, 1), (2, 1), (3, 16)]), (83, [(0, 1), (1, 7)]), (84, [(0, 1), (1, 7)]), (104, [(0, 1), (1, 1), (2, 1), (3, 1)]), (105, [(0, 1), (1, 1), (2, 1), (3, 1)]), (120, [(0, 1), (1, 1)]), (121, [(0, 1), (1, 1)]), (122, [(0, 1), (1, 1), (2, 1)]), (123, [(0, 1), (1, 1), (2, 1)]), (124, [(0, 4)]), (125, [(0, 4)]), (126, [(0, 1)]), (127, [(0, 1)]), (128, []), (129, []), (144, [(0, 1), (1, 1)]), (145, [(0, 1), (1, 1)]), (150, [(0, 1), (1, 1)]), (151, [(0, 1), (1, 1)]), (165, [(0, 0)]), (166, [(0, 0)])]
theorem look_mem {α : Type} : ∀ {l : List (Nat × α)} {i : Nat} {x : α}, look l i = some x → (i, x) ∈ l
  | [], i, x, h => by simp [look] at h
  | (k, y) :: l, i, x, h => by
    rw [look_cons] at h
    by_cases c : k = i
    · rw [if_pos c] at h
      obtain rfl := Option.some.inj h
      subst c
      simp
    · rw [if_neg c] at h
      exact List.mem_cons_of_mem _ (look_mem h)
theorem tyOk : ∀ p ∈ tyT, tiOf Tryd.prog p.1 = some p.2 := by
  simp only [tyT, List.forall_mem_cons]
  exact ⟨ty1, ty2, ty3, ty4, ty5, ty6, ty7, ty8, ty9, ty10, ty11, ty12, ty13, ty14, ty20, ty21, ty22, ty23, ty24, ty25, ty26, ty27, ty28, ty29, ty30, ty31, ty32, ty33, ty34, ty35, ty36, ty38, ty39, ty40, ty41, ty43, ty45, ty46, ty48, ty49, ty50, ty51, ty52, ty53, ty54, ty55, ty56, ty57, ty58, ty59, ty60, ty61, ty62, ty64, ty66, ty67, ty69, ty70, ty71, ty72, ty73, ty74, ty75, ty76, ty78, ty80, ty81, ty82, ty83, ty84, ty85, ty86, ty87, ty88, ty89, ty90, ty91, ty92, ty93, ty94, ty95, ty96, ty97, ty98, ty99, ty100, ty101, ty102, ty103, ty104, ty105, ty106, ty107, ty108, ty109, ty111, ty112, ty114, ty116, ty117, ty118, ty119, ty120, ty121, ty122, ty123, ty124, ty125, ty126, ty127, ty128, ty129, ty130, ty131, ty132, ty133, ty134, ty135, ty136, ty137, ty139, ty140, ty141, ty142, ty143, ty144, ty145, ty146, ty147, ty148, ty149, ty150, ty151, ty153, ty154, ty155, ty156, ty157, ty158, ty159, ty160, ty161, ty164, ty165, ty166, ty167, ty168, ty169, ty170, ty171, ty173, ty174, ty177, ty178, ty179, ty180, ty181, ty182, ty184, ty185, ty186, ty187, ty188, ty189, ty190, ty191, fun p h => by simp at h⟩
theorem lyOk : ∀ p ∈ lyT, laysOf Tryd.prog p.1 = some p.2 := by
  simp only [lyT, List.forall_mem_cons]
  exact ⟨ly7, ly8, ly13, ly14, ly24, ly25, ly27, ly28, ly30, ly31, ly39, ly40, ly49, ly50, ly51, ly52, ly57, ly58, ly61, ly62, ly83, ly84, ly104, ly105, ly120, ly121, ly122, ly123, ly124, ly125, ly126, ly127, ly128, ly129, ly144, ly145, ly150, ly151, ly165, ly166, fun p h => by simp at h⟩
/-- The environment of this program, with what its package variables hold. -/
def tyL (t : Nat) : Option TI := look tyT t
def lyL (t : Nat) : Option (List (Nat × Nat)) := look lyT t
/-- A walk to which nothing is lent; to which those boxes are lent. -/
def EnL (P : Program) (g : Nat → Option (List PV)) (ln : List Nat) : Env := ⟨P, ⟨g, ln⟩, tyL, lyL⟩
abbrev En (P : Program) (g : Nat → Option (List PV)) : Env := EnL P g []
theorem EnLOk (g : Nat → Option (List PV)) (ln : List Nat) : (EnL Tryd.prog g ln).Ok := ⟨fun t i h => tyOk (t, i) (look_mem h), fun t i h => lyOk (t, i) (look_mem h)⟩
theorem EnOk (g : Nat → Option (List PV)) : (En Tryd.prog g).Ok := EnLOk g []
theorem T2 {P : Program} {g : Nat → Option (List PV)} {ln : List Nat} : (EnL P g ln).T 2 = some ⟨.int .i64, 1, 8, [.int .i64 0]⟩ := rfl
theorem T3 {P : Program} {g : Nat → Option (List PV)} {ln : List Nat} : (EnL P g ln).T 3 = some ⟨.int .i64, 1, 8, [.int .i64 0]⟩ := rfl
theorem T4 {P : Program} {g : Nat → Option (List PV)} {ln : List Nat} : (EnL P g ln).T 4 = some ⟨.bool, 1, 1, [.bool false]⟩ := rfl
theorem T9 {P : Program} {g : Nat → Option (List PV)} {ln : List Nat} : (EnL P g ln).T 9 = some ⟨.strg, 1, 16, [.str ⟨#[]⟩]⟩ := rfl
theorem T22 {P : Program} {g : Nat → Option (List PV)} {ln : List Nat} : (EnL P g ln).T 22 = some ⟨.slc 31, 1, 24, [.nil]⟩ := rfl
theorem T23 {P : Program} {g : Nat → Option (List PV)} {ln : List Nat} : (EnL P g ln).T 23 = some ⟨.int .u64, 1, 8, [.int .u64 0]⟩ := rfl
theorem T25 {P : Program} {g : Nat → Option (List PV)} {ln : List Nat} : (EnL P g ln).T 25 = some ⟨.str, 4, 40, [.int .i64 0, .int .i64 0, .int .u64 0, .str ⟨#[]⟩]⟩ := rfl
theorem T26 {P : Program} {g : Nat → Option (List PV)} {ln : List Nat} : (EnL P g ln).T 26 = some ⟨.slc 28, 1, 24, [.nil]⟩ := rfl
theorem T28 {P : Program} {g : Nat → Option (List PV)} {ln : List Nat} : (EnL P g ln).T 28 = some ⟨.str, 7, 88, [.int .i64 0, .int .i64 0, .int .i64 0, .int .u64 0, .str ⟨#[]⟩, .str ⟨#[]⟩, .nil]⟩ := rfl
theorem T31 {P : Program} {g : Nat → Option (List PV)} {ln : List Nat} : (EnL P g ln).T 31 = some ⟨.str, 4, 40, [.int .i64 0, .int .i64 0, .int .i64 0, .str ⟨#[]⟩]⟩ := rfl
theorem T35 {P : Program} {g : Nat → Option (List PV)} {ln : List Nat} : (EnL P g ln).T 35 = some ⟨.slc 52, 1, 24, [.nil]⟩ := rfl
theorem T52 {P : Program} {g : Nat → Option (List PV)} {ln : List Nat} : (EnL P g ln).T 52 = some ⟨.str, 3, 32, [.str ⟨#[]⟩, .int .i64 0, .bool false]⟩ := rfl
theorem T86 {P : Program} {g : Nat → Option (List PV)} {ln : List Nat} : (EnL P g ln).T 86 = some ⟨.slc 3, 1, 24, [.nil]⟩ := rfl
theorem T105 {P : Program} {g : Nat → Option (List PV)} {ln : List Nat} : (EnL P g ln).T 105 = some ⟨.str, 4, 40, [.int .i64 0, .str ⟨#[]⟩, .int .i64 0, .int .u64 0]⟩ := rfl
theorem L25 {P : Program} {g : Nat → Option (List PV)} {ln : List Nat} : (EnL P g ln).L 25 = some [(0, 1), (1, 1), (2, 1), (3, 1)] := rfl
theorem L28 {P : Program} {g : Nat → Option (List PV)} {ln : List Nat} : (EnL P g ln).L 28 = some [(0, 1), (1, 4), (5, 1), (6, 1)] := rfl
theorem L52 {P : Program} {g : Nat → Option (List PV)} {ln : List Nat} : (EnL P g ln).L 52 = some [(0, 1), (1, 1), (2, 1)] := rfl
theorem L105 {P : Program} {g : Nat → Option (List PV)} {ln : List Nat} : (EnL P g ln).L 105 = some [(0, 1), (1, 1), (2, 1), (3, 1)] := rfl
theorem mixed : Tryd.prog.follows .mixedOrders = true := by kernel_rfl
theorem dT {p : Prop} [Decidable p] (h : p) : decide p = true := decide_eq_true h
theorem dF {p : Prop} [Decidable p] (h : ¬p) : decide p = false := decide_eq_false h
end Go.Proofs.YtlcmnhocicehmaaDoor.Vm
