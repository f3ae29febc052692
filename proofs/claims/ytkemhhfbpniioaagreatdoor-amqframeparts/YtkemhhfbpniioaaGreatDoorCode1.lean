/- The law. Part of a proof of a given statement: for every input the law returns true and the arguments read as before; no condition beyond the given row. -/
import Derived.Test.YtkemhhfbpniioaaGreatDoorAvGen
import Derived.Test.YtkemhhfbpniioaaGreatDoorProg
namespace Go.Av
noncomputable section
open Go.Proofs
set_option maxRecDepth 100000
def tyT : List TI := [⟨2, .int .i64, 1, 8, [.int .i64 (0)]⟩,
⟨3, .int .i64, 1, 8, [.int .i64 (0)]⟩,
⟨4, .bool, 1, 1, [.bool false]⟩,
⟨5, .int .u8, 1, 1, [.int .u8 (0)]⟩,
⟨9, .str, 1, 16, [.str []]⟩,
⟨12, .int .u64, 1, 8, [.int .u64 (0)]⟩,
⟨21, .int .i32, 1, 4, [.int .i32 (0)]⟩,
⟨22, .slice 26, 1, 24, [.nilSlice]⟩,
⟨24, .int .u64, 1, 8, [.int .u64 (0)]⟩,
⟨26, .struct [(0, 3), (1, 24), (2, 9), (3, 22)], 4, 56, [.int .i64 (0), .int .u64 (0), .str [], .nilSlice]⟩,
⟨27, .int .i64, 1, 8, [.int .i64 (0)]⟩,
⟨30, .slice 3, 1, 24, [.nilSlice]⟩,
⟨40, .other, 1, 8, [.nilFunc]⟩,
⟨42, .struct [(0, 3), (1, 3), (2, 9), (3, 22)], 4, 56, [.int .i64 (0), .int .i64 (0), .str [], .nilSlice]⟩,
⟨45, .struct [(0, 3), (1, 3)], 2, 16, [.int .i64 (0), .int .i64 (0)]⟩,
⟨57, .slice 9, 1, 24, [.nilSlice]⟩,
⟨58, .slice 27, 1, 24, [.nilSlice]⟩,
⟨73, .slice 76, 1, 24, [.nilSlice]⟩,
⟨76, .struct [(0, 3), (1, 3), (2, 3), (3, 4), (4, 4)], 5, 32, [.int .i64 (0), .int .i64 (0), .int .i64 (0), .bool false, .bool false]⟩,
⟨80, .slice 5, 1, 24, [.nilSlice]⟩,
⟨82, .struct [(0, 80)], 1, 24, [.nilSlice]⟩,
⟨84, .struct [(0, 82)], 1, 24, [.nilSlice]⟩,
⟨86, .slice 88, 1, 24, [.nilSlice]⟩,
⟨88, .struct [(0, 26), (4, 86), (5, 3), (6, 3)], 7, 96, [.int .i64 (0), .int .u64 (0), .str [], .nilSlice, .nilSlice, .int .i64 (0), .int .i64 (0)]⟩,
⟨93, .int .u64, 1, 8, [.int .u64 (0)]⟩,
⟨95, .struct [(0, 80)], 1, 24, [.nilSlice]⟩,
⟨97, .struct [(0, 95), (1, 42)], 5, 80, [.nilSlice, .int .i64 (0), .int .i64 (0), .str [], .nilSlice]⟩,
⟨103, .array 8 5, 8, 8, [.int .u8 (0), .int .u8 (0), .int .u8 (0), .int .u8 (0), .int .u8 (0), .int .u8 (0), .int .u8 (0), .int .u8 (0)]⟩,
⟨109, .ptr, 1, 8, [.nilPtr]⟩,
⟨112, .other, 1, 8, [.nilFunc]⟩,
⟨113, .map 3 112, 1, 8, [.nilMap]⟩,
⟨116, .ptr, 1, 8, [.nilPtr]⟩,
⟨120, .ptr, 1, 8, [.nilPtr]⟩,
⟨131, .other, 1, 8, [.nilFunc]⟩,
⟨134, .struct [(0, 76), (5, 26)], 9, 88, [.int .i64 (0), .int .i64 (0), .int .i64 (0), .bool false, .bool false, .int .i64 (0), .int .u64 (0), .str [], .nilSlice]⟩,
⟨135, .other, 1, 8, [.nilFunc]⟩,
⟨136, .map 3 135, 1, 8, [.nilMap]⟩,
⟨138, .other, 1, 8, [.nilFunc]⟩,
⟨139, .ptr, 1, 8, [.nilPtr]⟩,
⟨146, .struct [(0, 139), (1, 3)], 2, 16, [.nilPtr, .int .i64 (0)]⟩,
⟨151, .array 256 5, 256, 256, [.int .u8 (0), .int .u8 (0), .int .u8 (0), .int .u8 (0), .int .u8 (0), .int .u8 (0), .int .u8 (0), .int .u8 (0), .int .u8 (0), .int .u8 (0), .int .u8 (0), .int .u8 (0), .int .u8 (0), .int .u8 (0), .int .u8 (0), .int .u8 (0), .int .u8 (0), .int .u8 (0), .int .u8 (0), .int .u8 (0), .int .u8 (0), .int .u8 (0), .int .u8 (0), .int .u8 (0), .int .u8 (0), .int .u8 (0), .int .u8 (0), .int .u8 (0), .int .u8 (0), .int .u8 (0), .int .u8 (0), .int .u8 (0), .int .u8 (0), .int .u8 (0), .int .u8 (0), .int .u8 (0), .int .u8 (0), .int .u8 (0), .int .u8 (0), .int .u8 (0), .int .u8 (0), .int .u8 (0), .int .u8 (0), .int .u8 (0), .int .u8 (0), .int .u8 (0), .int .u8 (0), .int .u8 (0), .int .u8 (0), .int .u8 (0), .int .u8 (0), .int .u8 (0), .int .u8 (0), .int .u8 (0), .int .u8 (0), .int .u8 (0), .int .u8 (0), .int .u8 (0), .int .u8 (0), .int .u8 (0), .int .u8 (0), .int .u8 (0), .int .u8 (0), .int .u8 (0), .int .u8 (0), .int .u8 (0), .int .u8 (0), .int .u8 (0), .int .u8 (0), .int .u8 (0), .int .u8 (0), .int .u8 (0), .int .u8 (0), .int .u8 (0), .int .u8 (0), .int .u8 (0), .int .u8 (0), .int .u8 (0), .int .u8 (0), .int .u8 (0), .int .u8 (0), .int .u8 (0), .int .u8 (0), .int .u8 (0), .int .u8 (0), .int .u8 (0), .int .u8 (0), .int .u8 (0), .int .u8 (0), .int .u8 (0), .int .u8 (0), .int .u8 (0), .int .u8 (0), .int .u8 (0), .int .u8 (0), .int .u8 (0), .int .u8 (0), .int .u8 (0), .int .u8 (0), .int .u8 (0), .int .u8 (0), .int .u8 (0), .int .u8 (0), .int .u8 (0), .int .u8 (0), .int .u8 (0), .int .u8 (0), .int .u8 (0), .int .u8 (0), .int .u8 (0), .int .u8 (0), .int .u8 (0), .int .u8 (0), .int .u8 (0), .int .u8 (0), .int .u8 (0), .int .u8 (0), .int .u8 (0), .int .u8 (0), .int .u8 (0), .int .u8 (0), .int .u8 (0), .int .u8 (0), .int .u8 (0), .int .u8 (0), .int .u8 (0), .int .u8 (0), .int .u8 (0), .int .u8 (0), .int .u8 (0), .int .u8 (0), .int .u8 (0), .int .u8 (0), .int .u8 (0), .int .u8 (0), .int .u8 (0), .int .u8 (0), .int .u8 (0), .int .u8 (0), .int .u8 (0), .int .u8 (0), .int .u8 (0), .int .u8 (0), .int .u8 (0), .int .u8 (0), .int .u8 (0), .int .u8 (0), .int .u8 (0), .int .u8 (0), .int .u8 (0), .int .u8 (0), .int .u8 (0), .int .u8 (0), .int .u8 (0), .int .u8 (0), .int .u8 (0), .int .u8 (0), .int .u8 (0), .int .u8 (0), .int .u8 (0), .int .u8 (0), .int .u8 (0), .int .u8 (0), .int .u8 (0), .int .u8 (0), .int .u8 (0), .int .u8 (0), .int .u8 (0), .int .u8 (0), .int .u8 (0), .int .u8 (0), .int .u8 (0), .int .u8 (0), .int .u8 (0), .int .u8 (0), .int .u8 (0), .int .u8 (0), .int .u8 (0), .int .u8 (0), .int .u8 (0), .int .u8 (0), .int .u8 (0), .int .u8 (0), .int .u8 (0), .int .u8 (0), .int .u8 (0), .int .u8 (0), .int .u8 (0), .int .u8 (0), .int .u8 (0), .int .u8 (0), .int .u8 (0), .int .u8 (0), .int .u8 (0), .int .u8 (0), .int .u8 (0), .int .u8 (0), .int .u8 (0), .int .u8 (0), .int .u8 (0), .int .u8 (0), .int .u8 (0), .int .u8 (0), .int .u8 (0), .int .u8 (0), .int .u8 (0), .int .u8 (0), .int .u8 (0), .int .u8 (0), .int .u8 (0), .int .u8 (0), .int .u8 (0), .int .u8 (0), .int .u8 (0), .int .u8 (0), .int .u8 (0), .int .u8 (0), .int .u8 (0), .int .u8 (0), .int .u8 (0), .int .u8 (0), .int .u8 (0), .int .u8 (0), .int .u8 (0), .int .u8 (0), .int .u8 (0), .int .u8 (0), .int .u8 (0), .int .u8 (0), .int .u8 (0), .int .u8 (0), .int .u8 (0), .int .u8 (0), .int .u8 (0), .int .u8 (0), .int .u8 (0), .int .u8 (0), .int .u8 (0), .int .u8 (0), .int .u8 (0), .int .u8 (0), .int .u8 (0), .int .u8 (0), .int .u8 (0), .int .u8 (0), .int .u8 (0), .int .u8 (0), .int .u8 (0), .int .u8 (0), .int .u8 (0), .int .u8 (0), .int .u8 (0), .int .u8 (0), .int .u8 (0), .int .u8 (0), .int .u8 (0)]⟩,
⟨153, .struct [(0, 5), (1, 5)], 2, 2, [.int .u8 (0), .int .u8 (0)]⟩,
⟨154, .array 16 153, 32, 32, [.int .u8 (0), .int .u8 (0), .int .u8 (0), .int .u8 (0), .int .u8 (0), .int .u8 (0), .int .u8 (0), .int .u8 (0), .int .u8 (0), .int .u8 (0), .int .u8 (0), .int .u8 (0), .int .u8 (0), .int .u8 (0), .int .u8 (0), .int .u8 (0), .int .u8 (0), .int .u8 (0), .int .u8 (0), .int .u8 (0), .int .u8 (0), .int .u8 (0), .int .u8 (0), .int .u8 (0), .int .u8 (0), .int .u8 (0), .int .u8 (0), .int .u8 (0), .int .u8 (0), .int .u8 (0), .int .u8 (0), .int .u8 (0)]⟩,
⟨158, .struct [(0, 9), (1, 3), (2, 27)], 3, 32, [.str [], .int .i64 (0), .int .i64 (0)]⟩,
⟨162, .int .i64, 1, 8, [.int .i64 (0)]⟩,
⟨169, .int .u32, 1, 4, [.int .u32 (0)]⟩,
⟨171, .int .u64, 1, 8, [.int .u64 (0)]⟩,
⟨175, .ptr, 1, 8, [.nilPtr]⟩]
def c3 : CFunc := Xe (show Qi tyT Tryz.f3 [] = _ from rfl)
def c4 : CFunc := Xe (show Qi tyT Tryz.f4 [] = _ from rfl)
def c5 : CFunc := Xe (show Qi tyT Tryz.f5 [] = _ from rfl)
def c6 : CFunc := Xe (show Qi tyT Tryz.f6 [false, false, false, false, true, true, false, false, true, true, false, false, true, false, false, false, false, false, false, false, false, false, false, false, false, false, false, false, false, true] = _ from rfl)
def c7 : CFunc := Xe (show Qi tyT Tryz.f7 [] = _ from rfl)
def c9 : CFunc := Xe (show Qi tyT Tryz.f9 [] = _ from rfl)
def c13 : CFunc := Xe (show Qi tyT Tryz.f13 [] = _ from rfl)
def c15 : CFunc := Xe (show Qi tyT Tryz.f15 [] = _ from rfl)
def c16 : CFunc := Xe (show Qi tyT Tryz.f16 [] = _ from rfl)
def c17 : CFunc := Xe (show Qi tyT Tryz.f17 [] = _ from rfl)
def c20 : CFunc := Xe (show Qi tyT Tryz.f20 [] = _ from rfl)
def c21 : CFunc := Xe (show Qi tyT Tryz.f21 [false, false, true, true, true] = _ from rfl)
def c22 : CFunc := Xe (show Qi tyT Tryz.f22 [] = _ from rfl)
def c23 : CFunc := Xe (show Qi tyT Tryz.f23 [] = _ from rfl)
def c24 : CFunc := Xe (show Qi tyT Tryz.f24 [] = _ from rfl)
def c25 : CFunc := Xe (show Qi tyT Tryz.f25 [] = _ from rfl)
def c26 : CFunc := Xe (show Qi tyT Tryz.f26 [] = _ from rfl)
def c27 : CFunc := Xe (show Qi tyT Tryz.f27 [] = _ from rfl)
def c28 : CFunc := Xe (show Qi tyT Tryz.f28 [] = _ from rfl)
def c31 : CFunc := Xe (show Qi tyT Tryz.f31 [] = _ from rfl)
def c32 : CFunc := Xe (show Qi tyT Tryz.f32 [] = _ from rfl)
def c33 : CFunc := Xe (show Qi tyT Tryz.f33 [] = _ from rfl)
def c34 : CFunc := Xe (show Qi tyT Tryz.f34 [false, false, true, true, true, true] = _ from rfl)
def c36 : CFunc := Xe (show Qi tyT Tryz.f36 [] = _ from rfl)
def c42 : CFunc := Xe (show Qi tyT Tryz.f42 [] = _ from rfl)
def c49 : CFunc := Xe (show Qi tyT Tryz.f49 [] = _ from rfl)
def c53 : CFunc := Xe (show Qi tyT Tryz.f53 [] = _ from rfl)
def c54 : CFunc := Xe (show Qi tyT Tryz.f54 [] = _ from rfl)
def c55 : CFunc := Xe (show Qi tyT Tryz.f55 [] = _ from rfl)
def c56 : CFunc := Xe (show Qi tyT Tryz.f56 [] = _ from rfl)
def c58 : CFunc := Xe (show Qi tyT Tryz.f58 [] = _ from rfl)
def c59 : CFunc := Xe (show Qi tyT Tryz.f59 [] = _ from rfl)
def c60 : CFunc := Xe (show Qi tyT Tryz.f60 [] = _ from rfl)
def c61 : CFunc := Xe (show Qi tyT Tryz.f61 [] = _ from rfl)
def c62 : CFunc := Xe (show Qi tyT Tryz.f62 [] = _ from rfl)
def c63 : CFunc := Xe (show Qi tyT Tryz.f63 [] = _ from rfl)
def c64 : CFunc := Xe (show Qi tyT Tryz.f64 [] = _ from rfl)
def c66 : CFunc := Xe (show Qi tyT Tryz.f66 [] = _ from rfl)
def c68 : CFunc := Xe (show Qi tyT Tryz.f68 [] = _ from rfl)
def c69 : CFunc := Xe (show Qi tyT Tryz.f69 [] = _ from rfl)
def c70 : CFunc := Xe (show Qi tyT Tryz.f70 [] = _ from rfl)
def c71 : CFunc := Xe (show Qi tyT Tryz.f71 [] = _ from rfl)
def c72 : CFunc := Xe (show Qi tyT Tryz.f72 [] = _ from rfl)
def c74 : CFunc := Xe (show Qi tyT Tryz.f74 [] = _ from rfl)
def c75 : CFunc := Xe (show Qi tyT Tryz.f75 [] = _ from rfl)
def c76 : CFunc := Xe (show Qi tyT Tryz.f76 [] = _ from rfl)
def c77 : CFunc := Xe (show Qi tyT Tryz.f77 [] = _ from rfl)
def c79 : CFunc := Xe (show Qi tyT Tryz.f79 [] = _ from rfl)
def c83 : CFunc := Xe (show Qi tyT Tryz.f83 [] = _ from rfl)
def c84 : CFunc := Xe (show Qi tyT Tryz.f84 [] = _ from rfl)
def c85 : CFunc := Xe (show Qi tyT Tryz.f85 [] = _ from rfl)
def c86 : CFunc := Xe (show Qi tyT Tryz.f86 [false, false, false, false, false, true, false, true, true, true, false, true, true, true] = _ from rfl)
def c87 : CFunc := Xe (show Qi tyT Tryz.f87 [] = _ from rfl)
def c88 : CFunc := Xe (show Qi tyT Tryz.f88 [] = _ from rfl)
def c89 : CFunc := Xe (show Qi tyT Tryz.f89 [] = _ from rfl)
def c90 : CFunc := Xe (show Qi tyT Tryz.f90 [] = _ from rfl)
def c91 : CFunc := Xe (show Qi tyT Tryz.f91 [] = _ from rfl)
def c92 : CFunc := Xe (show Qi tyT Tryz.f92 [] = _ from rfl)
def c93 : CFunc := Xe (show Qi tyT Tryz.f93 [] = _ from rfl)
def c94 : CFunc := Xe (show Qi tyT Tryz.f94 [] = _ from rfl)
def c95 : CFunc := Xe (show Qi tyT Tryz.f95 [] = _ from rfl)
def c96 : CFunc := Xe (show Qi tyT Tryz.f96 [] = _ from rfl)
def c99 : CFunc := Xe (show Qi tyT Tryz.f99 [] = _ from rfl)
def Quh : CFunc := Xe (show Qi tyT Tryz.f100 [] = _ from rfl)
def Qug : CFunc := Xe (show Qi tyT Tryz.f101 [] = _ from rfl)
def Qtt : CFunc := Xe (show Qi tyT Tryz.f102 [] = _ from rfl)
def Quz : CFunc := Xe (show Qi tyT Tryz.f103 [] = _ from rfl)
def Qtx : CFunc := Xe (show Qi tyT Tryz.f104 [] = _ from rfl)
def Quu : CFunc := Xe (show Qi tyT Tryz.f105 [] = _ from rfl)
def Quc : CFunc := Xe (show Qi tyT Tryz.f107 [] = _ from rfl)
def Qv2 : CFunc := Xe (show Qi tyT Tryz.f108 [] = _ from rfl)
def Qu7 : CFunc := Xe (show Qi tyT Tryz.f109 [] = _ from rfl)
def Quf : CFunc := Xe (show Qi tyT Tryz.f110 [] = _ from rfl)
def Qua : CFunc := Xe (show Qi tyT Tryz.f111 [] = _ from rfl)
def Qtr : CFunc := Xe (show Qi tyT Tryz.f112 [] = _ from rfl)
def Qud : CFunc := Xe (show Qi tyT Tryz.f113 [] = _ from rfl)
def Qu2 : CFunc := Xe (show Qi tyT Tryz.f114 [] = _ from rfl)
def Qui : CFunc := Xe (show Qi tyT Tryz.f115 [] = _ from rfl)
def Qu1 : CFunc := Xe (show Qi tyT Tryz.f116 [] = _ from rfl)
def Qub : CFunc := Xe (show Qi tyT Tryz.f117 [] = _ from rfl)
def Qtq : CFunc := Xe (show Qi tyT Tryz.f118 [] = _ from rfl)
def Qts : CFunc := Xe (show Qi tyT Tryz.f121 [] = _ from rfl)
def Qtv : CFunc := Xe (show Qi tyT Tryz.f122 [] = _ from rfl)
def Qtw : CFunc := Xe (show Qi tyT Tryz.f123 [] = _ from rfl)
def Qw3 : CFunc := Xe (show Qi tyT Tryz.f127 [] = _ from rfl)
def Qtu : CFunc := Xe (show Qi tyT Tryz.f128 [] = _ from rfl)
def Qu0 : CFunc := Xe (show Qi tyT Tryz.f129 [] = _ from rfl)
def Qu6 : CFunc := Xe (show Qi tyT Tryz.f130 [] = _ from rfl)
def Qux : CFunc := Xe (show Qi tyT Tryz.f131 [] = _ from rfl)
def Qun : CFunc := Xe (show Qi tyT Tryz.f132 [] = _ from rfl)
def Quw : CFunc := Xe (show Qi tyT Tryz.f133 [] = _ from rfl)
def Qut : CFunc := Xe (show Qi tyT Tryz.f134 [] = _ from rfl)
def Qup : CFunc := Xe (show Qi tyT Tryz.f135 [] = _ from rfl)
def Quy : CFunc := Xe (show Qi tyT Tryz.f136 [] = _ from rfl)
def Quj : CFunc := Xe (show Qi tyT Tryz.f137 [] = _ from rfl)
def Qur : CFunc := Xe (show Qi tyT Tryz.f138 [] = _ from rfl)
def Qw8 : CFunc := Xe (show Qi tyT Tryz.f139 [] = _ from rfl)
def Qw0 : CFunc := Xe (show Qi tyT Tryz.f140 [] = _ from rfl)
def Qu9 : CFunc := Xe (show Qi tyT Tryz.f141 [] = _ from rfl)
def Qvs : CFunc := Xe (show Qi tyT Tryz.f150 [] = _ from rfl)
def Qvy : CFunc := Xe (show Qi tyT Tryz.f151 [] = _ from rfl)
def Qx3 : CFunc := Xe (show Qi tyT Tryz.f152 [] = _ from rfl)
def Quq : CFunc := Xe (show Qi tyT Tryz.f153 [] = _ from rfl)
def Qus : CFunc := Xe (show Qi tyT Tryz.f154 [] = _ from rfl)
def Qul : CFunc := Xe (show Qi tyT Tryz.f155 [] = _ from rfl)
def Qwh : CFunc := Xe (show Qi tyT Tryz.f156 [] = _ from rfl)
def Qw2 : CFunc := Xe (show Qi tyT Tryz.f160 [] = _ from rfl)
def Qv9 : CFunc := Xe (show Qi tyT Tryz.f161 [] = _ from rfl)
def Qv5 : CFunc := Xe (show Qi tyT Tryz.f162 [] = _ from rfl)
def Qwm : CFunc := Xe (show Qi tyT Tryz.f163 [] = _ from rfl)
def Qvr : CFunc := Xe (show Qi tyT Tryz.f164 [] = _ from rfl)
def Qwl : CFunc := Xe (show Qi tyT Tryz.f165 [] = _ from rfl)
def Qw1 : CFunc := Xe (show Qi tyT Tryz.f166 [] = _ from rfl)
def Qwu : CFunc := Xe (show Qi tyT Tryz.f167 [] = _ from rfl)
def Qvp : CFunc := Xe (show Qi tyT Tryz.f168 [] = _ from rfl)
def Qwf : CFunc := Xe (show Qi tyT Tryz.f169 [] = _ from rfl)
def Qvv : CFunc := Xe (show Qi tyT Tryz.f170 [] = _ from rfl)
def Qvq : CFunc := Xe (show Qi tyT Tryz.f171 [] = _ from rfl)
def Qvm : CFunc := Xe (show Qi tyT Tryz.f172 [] = _ from rfl)
def Qwk : CFunc := Xe (show Qi tyT Tryz.f173 [] = _ from rfl)
def Qw4 : CFunc := Xe (show Qi tyT Tryz.f174 [] = _ from rfl)
def Qvd : CFunc := Xe (show Qi tyT Tryz.f175 [] = _ from rfl)
def Qvz : CFunc := Xe (show Qi tyT Tryz.f176 [] = _ from rfl)
def Qvj : CFunc := Xe (show Qi tyT Tryz.f177 [] = _ from rfl)
def Qv4 : CFunc := Xe (show Qi tyT Tryz.f178 [] = _ from rfl)
def Qwz : CFunc := Xe (show Qi tyT Tryz.f179 [] = _ from rfl)
def Qw7 : CFunc := Xe (show Qi tyT Tryz.f180 [] = _ from rfl)
def Qry : List (Option CFunc) := [none, none, none, some c3, some c4, some c5, some c6, some c7, none, some c9, none, none, none, some c13, none, some c15, some c16, some c17, none, none, some c20, some c21, some c22, some c23, some c24, some c25, some c26, some c27, some c28, none, none, some c31, some c32, some c33, some c34, none, some c36, none, none, none, none, none, some c42, none, none, none, none, none, none, some c49, none, none, none, some c53, some c54, some c55, some c56, none, some c58, some c59, some c60, some c61, some c62, some c63, some c64, none, some c66, none, some c68, some c69, some c70, some c71, some c72, none, some c74, some c75, some c76, some c77, none, some c79, none, none, none, some c83, some c84, some c85, some c86, some c87, some c88, some c89, some c90, some c91, some c92, some c93, some c94, some c95, some c96, none, none, some c99, some Quh, some Qug, some Qtt, some Quz, some Qtx, some Quu, none, some Quc, some Qv2, some Qu7, some Quf, some Qua, some Qtr, some Qud, some Qu2, some Qui, some Qu1, some Qub, some Qtq, none, none, some Qts, some Qtv, some Qtw, none, none, none, some Qw3, some Qtu, some Qu0, some Qu6, some Qux, some Qun, some Quw, some Qut, some Qup, some Quy, some Quj, some Qur, some Qw8, some Qw0, some Qu9, none, none, none, none, none, none, none, none, some Qvs, some Qvy, some Qx3, some Quq, some Qus, some Qul, some Qwh, none, none, none, some Qw2, some Qv9, some Qv5, some Qwm, some Qvr, some Qwl, some Qw1, some Qwu, some Qvp, some Qwf, some Qvv, some Qvq, some Qvm, some Qwk, some Qw4, some Qvd, some Qvz, some Qvj, some Qv4, some Qwz, some Qw7]
end
end Go.Av
