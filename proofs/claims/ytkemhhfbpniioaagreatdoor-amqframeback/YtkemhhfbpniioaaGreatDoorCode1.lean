/- The law. Part of a proof of a given statement: for every input the law returns true and the arguments read as before; no condition beyond the given row. -/
import Derived.Test.YtkemhhfbpniioaaGreatDoorAvGen
import Derived.Test.YtkemhhfbpniioaaGreatDoorProg
namespace Go.Av
noncomputable section
open Go.Proofs
set_option maxRecDepth 100000
def tyT : List TI := [⟨2, .int .i64, 1, 8, [.int .i64 (0)]⟩,
⟨3, .int .i64, 1, 8, [.int .i64 (0)]⟩,
⟨4, .bool, 1, 1, [.bool false]⟩,
⟨5, .int .u8, 1, 1, [.int .u8 (0)]⟩,
⟨9, .str, 1, 16, [.str []]⟩,
⟨12, .int .u64, 1, 8, [.int .u64 (0)]⟩,
⟨21, .int .i32, 1, 4, [.int .i32 (0)]⟩,
⟨22, .slice 26, 1, 24, [.nilSlice]⟩,
⟨24, .int .u64, 1, 8, [.int .u64 (0)]⟩,
⟨26, .struct [(0, 3), (1, 24), (2, 9), (3, 22)], 4, 56, [.int .i64 (0), .int .u64 (0), .str [], .nilSlice]⟩,
⟨27, .int .i64, 1, 8, [.int .i64 (0)]⟩,
⟨30, .slice 3, 1, 24, [.nilSlice]⟩,
⟨40, .other, 1, 8, [.nilFunc]⟩,
⟨42, .struct [(0, 3), (1, 3), (2, 9), (3, 22)], 4, 56, [.int .i64 (0), .int .i64 (0), .str [], .nilSlice]⟩,
⟨45, .struct [(0, 3), (1, 3)], 2, 16, [.int .i64 (0), .int .i64 (0)]⟩,
⟨57, .slice 9, 1, 24, [.nilSlice]⟩,
⟨58, .slice 27, 1, 24, [.nilSlice]⟩,
⟨73, .slice 76, 1, 24, [.nilSlice]⟩,
⟨76, .struct [(0, 3), (1, 3), (2, 3), (3, 4), (4, 4)], 5, 32, [.int .i64 (0), .int .i64 (0), .int .i64 (0), .bool false, .bool false]⟩,
⟨80, .slice 5, 1, 24, [.nilSlice]⟩,
⟨82, .struct [(0, 80)], 1, 24, [.nilSlice]⟩,
⟨84, .struct [(0, 82)], 1, 24, [.nilSlice]⟩,
⟨86, .slice 88, 1, 24, [.nilSlice]⟩,
⟨88, .struct [(0, 26), (4, 86), (5, 3), (6, 3)], 7, 96, [.int .i64 (0), .int .u64 (0), .str [], .nilSlice, .nilSlice, .int .i64 (0), .int .i64 (0)]⟩,
⟨93, .int .u64, 1, 8, [.int .u64 (0)]⟩,
⟨95, .struct [(0, 80)], 1, 24, [.nilSlice]⟩,
⟨97, .struct [(0, 95), (1, 42)], 5, 80, [.nilSlice, .int .i64 (0), .int .i64 (0), .str [], .nilSlice]⟩,
⟨103, .array 8 5, 8, 8, [.int .u8 (0), .int .u8 (0), .int .u8 (0), .int .u8 (0), .int .u8 (0), .int .u8 (0), .int .u8 (0), .int .u8 (0)]⟩,
⟨109, .ptr, 1, 8, [.nilPtr]⟩,
⟨112, .other, 1, 8, [.nilFunc]⟩,
⟨113, .map 3 112, 1, 8, [.nilMap]⟩,
⟨116, .ptr, 1, 8, [.nilPtr]⟩,
⟨120, .ptr, 1, 8, [.nilPtr]⟩,
⟨131, .other, 1, 8, [.nilFunc]⟩,
⟨134, .struct [(0, 76), (5, 26)], 9, 88, [.int .i64 (0), .int .i64 (0), .int .i64 (0), .bool false, .bool false, .int .i64 (0), .int .u64 (0), .str [], .nilSlice]⟩,
⟨135, .other, 1, 8, [.nilFunc]⟩,
⟨136, .map 3 135, 1, 8, [.nilMap]⟩,
⟨138, .other, 1, 8, [.nilFunc]⟩,
⟨139, .ptr, 1, 8, [.nilPtr]⟩,
⟨146, .struct [(0, 139), (1, 3)], 2, 16, [.nilPtr, .int .i64 (0)]⟩,
⟨151, .array 256 5, 256, 256, [.int .u8 (0), .int .u8 (0), .int .u8 (0), .int .u8 (0), .int .u8 (0), .int .u8 (0), .int .u8 (0), .int .u8 (0), .int .u8 (0), .int .u8 (0), .int .u8 (0), .int .u8 (0), .int .u8 (0), .int .u8 (0), .int .u8 (0), .int .u8 (0), .int .u8 (0), .int .u8 (0), .int .u8 (0), .int .u8 (0), .int .u8 (0), .int .u8 (0), .int .u8 (0), .int .u8 (0), .int .u8 (0), .int .u8 (0), .int .u8 (0), .int .u8 (0), .int .u8 (0), .int .u8 (0), .int .u8 (0), .int .u8 (0), .int .u8 (0), .int .u8 (0), .int .u8 (0), .int .u8 (0), .int .u8 (0), .int .u8 (0), .int .u8 (0), .int .u8 (0), .int .u8 (0), .int .u8 (0), .int .u8 (0), .int .u8 (0), .int .u8 (0), .int .u8 (0), .int .u8 (0), .int .u8 (0), .int .u8 (0), .int .u8 (0), .int .u8 (0), .int .u8 (0), .int .u8 (0), .int .u8 (0), .int .u8 (0), .int .u8 (0), .int .u8 (0), .int .u8 (0), .int .u8 (0), .int .u8 (0), .int .u8 (0), .int .u8 (0), .int .u8 (0), .int .u8 (0), .int .u8 (0), .int .u8 (0), .int .u8 (0), .int .u8 (0), .int .u8 (0), .int .u8 (0), .int .u8 (0), .int .u8 (0), .int .u8 (0), .int .u8 (0), .int .u8 (0), .int .u8 (0), .int .u8 (0), .int .u8 (0), .int .u8 (0), .int .u8 (0), .int .u8 (0), .int .u8 (0), .int .u8 (0), .int .u8 (0), .int .u8 (0), .int .u8 (0), .int .u8 (0), .int .u8 (0), .int .u8 (0), .int .u8 (0), .int .u8 (0), .int .u8 (0), .int .u8 (0), .int .u8 (0), .int .u8 (0), .int .u8 (0), .int .u8 (0), .int .u8 (0), .int .u8 (0), .int .u8 (0), .int .u8 (0), .int .u8 (0), .int .u8 (0), .int .u8 (0), .int .u8 (0), .int .u8 (0), .int .u8 (0), .int .u8 (0), .int .u8 (0), .int .u8 (0), .int .u8 (0), .int .u8 (0), .int .u8 (0), .int .u8 (0), .int .u8 (0), .int .u8 (0), .int .u8 (0), .int .u8 (0), .int .u8 (0), .int .u8 (0), .int .u8 (0), .int .u8 (0), .int .u8 (0), .int .u8 (0), .int .u8 (0), .int .u8 (0), .int .u8 (0), .int .u8 (0), .int .u8 (0), .int .u8 (0), .int .u8 (0), .int .u8 (0), .int .u8 (0), .int .u8 (0), .int .u8 (0), .int .u8 (0), .int .u8 (0), .int .u8 (0), .int .u8 (0), .int .u8 (0), .int .u8 (0), .int .u8 (0), .int .u8 (0), .int .u8 (0), .int .u8 (0), .int .u8 (0), .int .u8 (0), .int .u8 (0), .int .u8 (0), .int .u8 (0), .int .u8 (0), .int .u8 (0), .int .u8 (0), .int .u8 (0), .int .u8 (0), .int .u8 (0), .int .u8 (0), .int .u8 (0), .int .u8 (0), .int .u8 (0), .int .u8 (0), .int .u8 (0), .int .u8 (0), .int .u8 (0), .int .u8 (0), .int .u8 (0), .int .u8 (0), .int .u8 (0), .int .u8 (0), .int .u8 (0), .int .u8 (0), .int .u8 (0), .int .u8 (0), .int .u8 (0), .int .u8 (0), .int .u8 (0), .int .u8 (0), .int .u8 (0), .int .u8 (0), .int .u8 (0), .int .u8 (0), .int .u8 (0), .int .u8 (0), .int .u8 (0), .int .u8 (0), .int .u8 (0), .int .u8 (0), .int .u8 (0), .int .u8 (0), .int .u8 (0), .int .u8 (0), .int .u8 (0), .int .u8 (0), .int .u8 (0), .int .u8 (0), .int .u8 (0), .int .u8 (0), .int .u8 (0), .int .u8 (0), .int .u8 (0), .int .u8 (0), .int .u8 (0), .int .u8 (0), .int .u8 (0), .int .u8 (0), .int .u8 (0), .int .u8 (0), .int .u8 (0), .int .u8 (0), .int .u8 (0), .int .u8 (0), .int .u8 (0), .int .u8 (0), .int .u8 (0), .int .u8 (0), .int .u8 (0), .int .u8 (0), .int .u8 (0), .int .u8 (0), .int .u8 (0), .int .u8 (0), .int .u8 (0), .int .u8 (0), .int .u8 (0), .int .u8 (0), .int .u8 (0), .int .u8 (0), .int .u8 (0), .int .u8 (0), .int .u8 (0), .int .u8 (0), .int .u8 (0), .int .u8 (0), .int .u8 (0), .int .u8 (0), .int .u8 (0), .int .u8 (0), .int .u8 (0), .int .u8 (0), .int .u8 (0), .int .u8 (0), .int .u8 (0), .int .u8 (0), .int .u8 (0), .int .u8 (0), .int .u8 (0), .int .u8 (0), .int .u8 (0), .int .u8 (0), .int .u8 (0), .int .u8 (0), .int .u8 (0), .int .u8 (0), .int .u8 (0), .int .u8 (0), .int .u8 (0)]⟩,
⟨153, .struct [(0, 5), (1, 5)], 2, 2, [.int .u8 (0), .int .u8 (0)]⟩,
⟨154, .array 16 153, 32, 32, [.int .u8 (0), .int .u8 (0), .int .u8 (0), .int .u8 (0), .int .u8 (0), .int .u8 (0), .int .u8 (0), .int .u8 (0), .int .u8 (0), .int .u8 (0), .int .u8 (0), .int .u8 (0), .int .u8 (0), .int .u8 (0), .int .u8 (0), .int .u8 (0), .int .u8 (0), .int .u8 (0), .int .u8 (0), .int .u8 (0), .int .u8 (0), .int .u8 (0), .int .u8 (0), .int .u8 (0), .int .u8 (0), .int .u8 (0), .int .u8 (0), .int .u8 (0), .int .u8 (0), .int .u8 (0), .int .u8 (0), .int .u8 (0)]⟩,
⟨158, .struct [(0, 9), (1, 3), (2, 27)], 3, 32, [.str [], .int .i64 (0), .int .i64 (0)]⟩,
⟨162, .int .i64, 1, 8, [.int .i64 (0)]⟩,
⟨169, .int .u32, 1, 4, [.int .u32 (0)]⟩,
⟨171, .int .u64, 1, 8, [.int .u64 (0)]⟩,
⟨175, .ptr, 1, 8, [.nilPtr]⟩]
def c3 : CFunc := Yq (show Qn tyT Tryz.f3 [] = _ from rfl)
def c4 : CFunc := Yq (show Qn tyT Tryz.f4 [] = _ from rfl)
def c5 : CFunc := Yq (show Qn tyT Tryz.f5 [] = _ from rfl)
def c6 : CFunc := Yq (show Qn tyT Tryz.f6 [false, false, false, false, true, true, false, false, true, true, false, false, true, false, false, false, false, false, false, false, false, false, false, false, false, false, false, false, false, true] = _ from rfl)
def c7 : CFunc := Yq (show Qn tyT Tryz.f7 [] = _ from rfl)
def c10 : CFunc := Yq (show Qn tyT Tryz.f10 [] = _ from rfl)
def c13 : CFunc := Yq (show Qn tyT Tryz.f13 [] = _ from rfl)
def c17 : CFunc := Yq (show Qn tyT Tryz.f17 [] = _ from rfl)
def c20 : CFunc := Yq (show Qn tyT Tryz.f20 [] = _ from rfl)
def c21 : CFunc := Yq (show Qn tyT Tryz.f21 [false, false, true, true, true] = _ from rfl)
def c24 : CFunc := Yq (show Qn tyT Tryz.f24 [] = _ from rfl)
def c25 : CFunc := Yq (show Qn tyT Tryz.f25 [] = _ from rfl)
def c26 : CFunc := Yq (show Qn tyT Tryz.f26 [] = _ from rfl)
def c28 : CFunc := Yq (show Qn tyT Tryz.f28 [] = _ from rfl)
def c29 : CFunc := Yq (show Qn tyT Tryz.f29 [] = _ from rfl)
def c30 : CFunc := Yq (show Qn tyT Tryz.f30 [] = _ from rfl)
def c33 : CFunc := Yq (show Qn tyT Tryz.f33 [] = _ from rfl)
def c36 : CFunc := Yq (show Qn tyT Tryz.f36 [] = _ from rfl)
def c37 : CFunc := Yq (show Qn tyT Tryz.f37 [] = _ from rfl)
def c38 : CFunc := Yq (show Qn tyT Tryz.f38 [] = _ from rfl)
def c41 : CFunc := Yq (show Qn tyT Tryz.f41 [] = _ from rfl)
def c42 : CFunc := Yq (show Qn tyT Tryz.f42 [] = _ from rfl)
def c49 : CFunc := Yq (show Qn tyT Tryz.f49 [] = _ from rfl)
def c52 : CFunc := Yq (show Qn tyT Tryz.f52 [] = _ from rfl)
def c61 : CFunc := Yq (show Qn tyT Tryz.f61 [] = _ from rfl)
def c62 : CFunc := Yq (show Qn tyT Tryz.f62 [] = _ from rfl)
def c63 : CFunc := Yq (show Qn tyT Tryz.f63 [] = _ from rfl)
def c64 : CFunc := Yq (show Qn tyT Tryz.f64 [] = _ from rfl)
def c66 : CFunc := Yq (show Qn tyT Tryz.f66 [] = _ from rfl)
def c67 : CFunc := Yq (show Qn tyT Tryz.f67 [] = _ from rfl)
def c69 : CFunc := Yq (show Qn tyT Tryz.f69 [] = _ from rfl)
def c70 : CFunc := Yq (show Qn tyT Tryz.f70 [] = _ from rfl)
def c71 : CFunc := Yq (show Qn tyT Tryz.f71 [] = _ from rfl)
def c73 : CFunc := Yq (show Qn tyT Tryz.f73 [] = _ from rfl)
def c74 : CFunc := Yq (show Qn tyT Tryz.f74 [] = _ from rfl)
def c75 : CFunc := Yq (show Qn tyT Tryz.f75 [] = _ from rfl)
def c77 : CFunc := Yq (show Qn tyT Tryz.f77 [] = _ from rfl)
def c78 : CFunc := Yq (show Qn tyT Tryz.f78 [] = _ from rfl)
def c79 : CFunc := Yq (show Qn tyT Tryz.f79 [] = _ from rfl)
def c87 : CFunc := Yq (show Qn tyT Tryz.f87 [] = _ from rfl)
def c88 : CFunc := Yq (show Qn tyT Tryz.f88 [] = _ from rfl)
def c89 : CFunc := Yq (show Qn tyT Tryz.f89 [] = _ from rfl)
def c90 : CFunc := Yq (show Qn tyT Tryz.f90 [] = _ from rfl)
def c91 : CFunc := Yq (show Qn tyT Tryz.f91 [] = _ from rfl)
def c92 : CFunc := Yq (show Qn tyT Tryz.f92 [] = _ from rfl)
def c93 : CFunc := Yq (show Qn tyT Tryz.f93 [] = _ from rfl)
def c94 : CFunc := Yq (show Qn tyT Tryz.f94 [] = _ from rfl)
def c95 : CFunc := Yq (show Qn tyT Tryz.f95 [] = _ from rfl)
def c96 : CFunc := Yq (show Qn tyT Tryz.f96 [] = _ from rfl)
def Qu4 : CFunc := Yq (show Qn tyT Tryz.f101 [] = _ from rfl)
def Qt2 : CFunc := Yq (show Qn tyT Tryz.f102 [] = _ from rfl)
def Qt9 : CFunc := Yq (show Qn tyT Tryz.f106 [] = _ from rfl)
def Qsu : CFunc := Yq (show Qn tyT Tryz.f107 [] = _ from rfl)
def Qu8 : CFunc := Yq (show Qn tyT Tryz.f109 [] = _ from rfl)
def Qsz : CFunc := Yq (show Qn tyT Tryz.f110 [] = _ from rfl)
def Qtq : CFunc := Yq (show Qn tyT Tryz.f111 [] = _ from rfl)
def Qt5 : CFunc := Yq (show Qn tyT Tryz.f112 [] = _ from rfl)
def Qtu : CFunc := Yq (show Qn tyT Tryz.f113 [] = _ from rfl)
def Qtr : CFunc := Yq (show Qn tyT Tryz.f114 [] = _ from rfl)
def Qst : CFunc := Yq (show Qn tyT Tryz.f115 [] = _ from rfl)
def Qtw : CFunc := Yq (show Qn tyT Tryz.f116 [] = _ from rfl)
def Qth : CFunc := Yq (show Qn tyT Tryz.f117 [] = _ from rfl)
def Qtf : CFunc := Yq (show Qn tyT Tryz.f118 [] = _ from rfl)
def Qt6 : CFunc := Yq (show Qn tyT Tryz.f124 [] = _ from rfl)
def Qti : CFunc := Yq (show Qn tyT Tryz.f125 [] = _ from rfl)
def Qss : CFunc := Yq (show Qn tyT Tryz.f126 [] = _ from rfl)
def Quh : CFunc := Yq (show Qn tyT Tryz.f127 [] = _ from rfl)
def Qsw : CFunc := Yq (show Qn tyT Tryz.f128 [] = _ from rfl)
def Qtk : CFunc := Yq (show Qn tyT Tryz.f129 [] = _ from rfl)
def Qta : CFunc := Yq (show Qn tyT Tryz.f130 [] = _ from rfl)
def Qt8 : CFunc := Yq (show Qn tyT Tryz.f131 [] = _ from rfl)
def Qt3 : CFunc := Yq (show Qn tyT Tryz.f132 [] = _ from rfl)
def Qsx : CFunc := Yq (show Qn tyT Tryz.f133 [] = _ from rfl)
def Qtm : CFunc := Yq (show Qn tyT Tryz.f134 [] = _ from rfl)
def Qtj : CFunc := Yq (show Qn tyT Tryz.f135 [] = _ from rfl)
def Qu5 : CFunc := Yq (show Qn tyT Tryz.f136 [] = _ from rfl)
def Qts : CFunc := Yq (show Qn tyT Tryz.f137 [] = _ from rfl)
def Qsv : CFunc := Yq (show Qn tyT Tryz.f138 [] = _ from rfl)
def Qvk : CFunc := Yq (show Qn tyT Tryz.f139 [] = _ from rfl)
def Qvz : CFunc := Yq (show Qn tyT Tryz.f140 [] = _ from rfl)
def Qtg : CFunc := Yq (show Qn tyT Tryz.f142 [] = _ from rfl)
def Qu3 : CFunc := Yq (show Qn tyT Tryz.f143 [] = _ from rfl)
def Qu0 : CFunc := Yq (show Qn tyT Tryz.f144 [] = _ from rfl)
def Qtp : CFunc := Yq (show Qn tyT Tryz.f145 [] = _ from rfl)
def Qtx : CFunc := Yq (show Qn tyT Tryz.f146 [] = _ from rfl)
def Qu7 : CFunc := Yq (show Qn tyT Tryz.f147 [] = _ from rfl)
def Qtl : CFunc := Yq (show Qn tyT Tryz.f148 [] = _ from rfl)
def Qt7 : CFunc := Yq (show Qn tyT Tryz.f149 [] = _ from rfl)
def Quw : CFunc := Yq (show Qn tyT Tryz.f150 [] = _ from rfl)
def Qvs : CFunc := Yq (show Qn tyT Tryz.f151 [] = _ from rfl)
def Qv4 : CFunc := Yq (show Qn tyT Tryz.f152 [] = _ from rfl)
def Qto : CFunc := Yq (show Qn tyT Tryz.f153 [] = _ from rfl)
def Qsy : CFunc := Yq (show Qn tyT Tryz.f154 [] = _ from rfl)
def Qtz : CFunc := Yq (show Qn tyT Tryz.f155 [] = _ from rfl)
def Qvm : CFunc := Yq (show Qn tyT Tryz.f156 [] = _ from rfl)
def Qt1 : CFunc := Yq (show Qn tyT Tryz.f157 [] = _ from rfl)
def Qu1 : CFunc := Yq (show Qn tyT Tryz.f158 [] = _ from rfl)
def Qlg : CFunc := Yq (show Qn tyT Tryz.f159 [] = _ from rfl)
def Qmi : CFunc := Yq (show Qn tyT Tryz.f160 [] = _ from rfl)
def Qn4 : CFunc := Yq (show Qn tyT Tryz.f161 [] = _ from rfl)
def Qvg : CFunc := Yq (show Qn tyT Tryz.f162 [] = _ from rfl)
def Qui : CFunc := Yq (show Qn tyT Tryz.f163 [] = _ from rfl)
def Qw5 : CFunc := Yq (show Qn tyT Tryz.f164 [] = _ from rfl)
def Qw7 : CFunc := Yq (show Qn tyT Tryz.f165 [] = _ from rfl)
def Qvu : CFunc := Yq (show Qn tyT Tryz.f166 [] = _ from rfl)
def Qvw : CFunc := Yq (show Qn tyT Tryz.f167 [] = _ from rfl)
def Qvt : CFunc := Yq (show Qn tyT Tryz.f168 [] = _ from rfl)
def Quo : CFunc := Yq (show Qn tyT Tryz.f169 [] = _ from rfl)
def Quv : CFunc := Yq (show Qn tyT Tryz.f170 [] = _ from rfl)
def Quf : CFunc := Yq (show Qn tyT Tryz.f171 [] = _ from rfl)
def Qw3 : CFunc := Yq (show Qn tyT Tryz.f172 [] = _ from rfl)
def Quc : CFunc := Yq (show Qn tyT Tryz.f173 [] = _ from rfl)
def Quj : CFunc := Yq (show Qn tyT Tryz.f174 [] = _ from rfl)
def Qua : CFunc := Yq (show Qn tyT Tryz.f175 [] = _ from rfl)
def Qv1 : CFunc := Yq (show Qn tyT Tryz.f176 [] = _ from rfl)
def Qux : CFunc := Yq (show Qn tyT Tryz.f177 [] = _ from rfl)
def Qvb : CFunc := Yq (show Qn tyT Tryz.f178 [] = _ from rfl)
def Qvf : CFunc := Yq (show Qn tyT Tryz.f179 [] = _ from rfl)
def Qul : CFunc := Yq (show Qn tyT Tryz.f180 [] = _ from rfl)
def Qr3 : List (Option CFunc) := [none, none, none, some c3, some c4, some c5, some c6, some c7, none, none, some c10, none, none, some c13, none, none, none, some c17, none, none, some c20, some c21, none, none, some c24, some c25, some c26, none, some c28, some c29, some c30, none, none, some c33, none, none, some c36, some c37, some c38, none, none, some c41, some c42, none, none, none, none, none, none, some c49, none, none, some c52, none, none, none, none, none, none, none, none, some c61, some c62, some c63, some c64, none, some c66, some c67, none, some c69, some c70, some c71, none, some c73, some c74, some c75, none, some c77, some c78, some c79, none, none, none, none, none, none, none, some c87, some c88, some c89, some c90, some c91, some c92, some c93, some c94, some c95, some c96, none, none, none, none, some Qu4, some Qt2, none, none, none, some Qt9, some Qsu, none, some Qu8, some Qsz, some Qtq, some Qt5, some Qtu, some Qtr, some Qst, some Qtw, some Qth, some Qtf, none, none, none, none, none, some Qt6, some Qti, some Qss, some Quh, some Qsw, some Qtk, some Qta, some Qt8, some Qt3, some Qsx, some Qtm, some Qtj, some Qu5, some Qts, some Qsv, some Qvk, some Qvz, none, some Qtg, some Qu3, some Qu0, some Qtp, some Qtx, some Qu7, some Qtl, some Qt7, some Quw, some Qvs, some Qv4, some Qto, some Qsy, some Qtz, some Qvm, some Qt1, some Qu1, some Qlg, some Qmi, some Qn4, some Qvg, some Qui, some Qw5, some Qw7, some Qvu, some Qvw, some Qvt, some Quo, some Quv, some Quf, some Qw3, some Quc, some Quj, some Qua, some Qv1, some Qux, some Qvb, some Qvf, some Qul]
end
end Go.Av
