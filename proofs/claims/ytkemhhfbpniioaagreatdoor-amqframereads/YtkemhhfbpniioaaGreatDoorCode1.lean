/- The law. Part of a proof of a given statement: for every input the law returns true and the arguments read as before; no condition beyond the given row. -/
import Derived.Test.YtkemhhfbpniioaaGreatDoorAvGen
import Derived.Test.YtkemhhfbpniioaaGreatDoorProg
namespace Go.Av
noncomputable section
open Go.Proofs
set_option maxRecDepth 100000
def tyT : List TI := [⟨2, .int .i64, 1, 8, [.int .i64 (0)]⟩,
⟨3, .int .i64, 1, 8, [.int .i64 (0)]⟩,
⟨4, .bool, 1, 1, [.bool false]⟩,
⟨5, .int .u8, 1, 1, [.int .u8 (0)]⟩,
⟨9, .str, 1, 16, [.str []]⟩,
⟨12, .int .u64, 1, 8, [.int .u64 (0)]⟩,
⟨21, .int .i32, 1, 4, [.int .i32 (0)]⟩,
⟨22, .slice 26, 1, 24, [.nilSlice]⟩,
⟨24, .int .u64, 1, 8, [.int .u64 (0)]⟩,
⟨26, .struct [(0, 3), (1, 24), (2, 9), (3, 22)], 4, 56, [.int .i64 (0), .int .u64 (0), .str [], .nilSlice]⟩,
⟨27, .int .i64, 1, 8, [.int .i64 (0)]⟩,
⟨30, .slice 3, 1, 24, [.nilSlice]⟩,
⟨40, .other, 1, 8, [.nilFunc]⟩,
⟨42, .struct [(0, 3), (1, 3), (2, 9), (3, 22)], 4, 56, [.int .i64 (0), .int .i64 (0), .str [], .nilSlice]⟩,
⟨45, .struct [(0, 3), (1, 3)], 2, 16, [.int .i64 (0), .int .i64 (0)]⟩,
⟨57, .slice 9, 1, 24, [.nilSlice]⟩,
⟨58, .slice 27, 1, 24, [.nilSlice]⟩,
⟨73, .slice 76, 1, 24, [.nilSlice]⟩,
⟨76, .struct [(0, 3), (1, 3), (2, 3), (3, 4), (4, 4)], 5, 32, [.int .i64 (0), .int .i64 (0), .int .i64 (0), .bool false, .bool false]⟩,
⟨80, .slice 5, 1, 24, [.nilSlice]⟩,
⟨82, .struct [(0, 80)], 1, 24, [.nilSlice]⟩,
⟨84, .struct [(0, 82)], 1, 24, [.nilSlice]⟩,
⟨86, .slice 88, 1, 24, [.nilSlice]⟩,
⟨88, .struct [(0, 26), (4, 86), (5, 3), (6, 3)], 7, 96, [.int .i64 (0), .int .u64 (0), .str [], .nilSlice, .nilSlice, .int .i64 (0), .int .i64 (0)]⟩,
⟨93, .int .u64, 1, 8, [.int .u64 (0)]⟩,
⟨95, .struct [(0, 80)], 1, 24, [.nilSlice]⟩,
⟨97, .struct [(0, 95), (1, 42)], 5, 80, [.nilSlice, .int .i64 (0), .int .i64 (0), .str [], .nilSlice]⟩,
⟨103, .array 8 5, 8, 8, [.int .u8 (0), .int .u8 (0), .int .u8 (0), .int .u8 (0), .int .u8 (0), .int .u8 (0), .int .u8 (0), .int .u8 (0)]⟩,
⟨109, .ptr, 1, 8, [.nilPtr]⟩,
⟨112, .other, 1, 8, [.nilFunc]⟩,
⟨113, .map 3 112, 1, 8, [.nilMap]⟩,
⟨116, .ptr, 1, 8, [.nilPtr]⟩,
⟨120, .ptr, 1, 8, [.nilPtr]⟩,
⟨131, .other, 1, 8, [.nilFunc]⟩,
⟨134, .struct [(0, 76), (5, 26)], 9, 88, [.int .i64 (0), .int .i64 (0), .int .i64 (0), .bool false, .bool false, .int .i64 (0), .int .u64 (0), .str [], .nilSlice]⟩,
⟨135, .other, 1, 8, [.nilFunc]⟩,
⟨136, .map 3 135, 1, 8, [.nilMap]⟩,
⟨138, .other, 1, 8, [.nilFunc]⟩,
⟨139, .ptr, 1, 8, [.nilPtr]⟩,
⟨146, .struct [(0, 139), (1, 3)], 2, 16, [.nilPtr, .int .i64 (0)]⟩,
⟨151, .array 256 5, 256, 256, [.int .u8 (0), .int .u8 (0), .int .u8 (0), .int .u8 (0), .int .u8 (0), .int .u8 (0), .int .u8 (0), .int .u8 (0), .int .u8 (0), .int .u8 (0), .int .u8 (0), .int .u8 (0), .int .u8 (0), .int .u8 (0), .int .u8 (0), .int .u8 (0), .int .u8 (0), .int .u8 (0), .int .u8 (0), .int .u8 (0), .int .u8 (0), .int .u8 (0), .int .u8 (0), .int .u8 (0), .int .u8 (0), .int .u8 (0), .int .u8 (0), .int .u8 (0), .int .u8 (0), .int .u8 (0), .int .u8 (0), .int .u8 (0), .int .u8 (0), .int .u8 (0), .int .u8 (0), .int .u8 (0), .int .u8 (0), .int .u8 (0), .int .u8 (0), .int .u8 (0), .int .u8 (0), .int .u8 (0), .int .u8 (0), .int .u8 (0), .int .u8 (0), .int .u8 (0), .int .u8 (0), .int .u8 (0), .int .u8 (0), .int .u8 (0), .int .u8 (0), .int .u8 (0), .int .u8 (0), .int .u8 (0), .int .u8 (0), .int .u8 (0), .int .u8 (0), .int .u8 (0), .int .u8 (0), .int .u8 (0), .int .u8 (0), .int .u8 (0), .int .u8 (0), .int .u8 (0), .int .u8 (0), .int .u8 (0), .int .u8 (0), .int .u8 (0), .int .u8 (0), .int .u8 (0), .int .u8 (0), .int .u8 (0), .int .u8 (0), .int .u8 (0), .int .u8 (0), .int .u8 (0), .int .u8 (0), .int .u8 (0), .int .u8 (0), .int .u8 (0), .int .u8 (0), .int .u8 (0), .int .u8 (0), .int .u8 (0), .int .u8 (0), .int .u8 (0), .int .u8 (0), .int .u8 (0), .int .u8 (0), .int .u8 (0), .int .u8 (0), .int .u8 (0), .int .u8 (0), .int .u8 (0), .int .u8 (0), .int .u8 (0), .int .u8 (0), .int .u8 (0), .int .u8 (0), .int .u8 (0), .int .u8 (0), .int .u8 (0), .int .u8 (0), .int .u8 (0), .int .u8 (0), .int .u8 (0), .int .u8 (0), .int .u8 (0), .int .u8 (0), .int .u8 (0), .int .u8 (0), .int .u8 (0), .int .u8 (0), .int .u8 (0), .int .u8 (0), .int .u8 (0), .int .u8 (0), .int .u8 (0), .int .u8 (0), .int .u8 (0), .int .u8 (0), .int .u8 (0), .int .u8 (0), .int .u8 (0), .int .u8 (0), .int .u8 (0), .int .u8 (0), .int .u8 (0), .int .u8 (0), .int .u8 (0), .int .u8 (0), .int .u8 (0), .int .u8 (0), .int .u8 (0), .int .u8 (0), .int .u8 (0), .int .u8 (0), .int .u8 (0), .int .u8 (0), .int .u8 (0), .int .u8 (0), .int .u8 (0), .int .u8 (0), .int .u8 (0), .int .u8 (0), .int .u8 (0), .int .u8 (0), .int .u8 (0), .int .u8 (0), .int .u8 (0), .int .u8 (0), .int .u8 (0), .int .u8 (0), .int .u8 (0), .int .u8 (0), .int .u8 (0), .int .u8 (0), .int .u8 (0), .int .u8 (0), .int .u8 (0), .int .u8 (0), .int .u8 (0), .int .u8 (0), .int .u8 (0), .int .u8 (0), .int .u8 (0), .int .u8 (0), .int .u8 (0), .int .u8 (0), .int .u8 (0), .int .u8 (0), .int .u8 (0), .int .u8 (0), .int .u8 (0), .int .u8 (0), .int .u8 (0), .int .u8 (0), .int .u8 (0), .int .u8 (0), .int .u8 (0), .int .u8 (0), .int .u8 (0), .int .u8 (0), .int .u8 (0), .int .u8 (0), .int .u8 (0), .int .u8 (0), .int .u8 (0), .int .u8 (0), .int .u8 (0), .int .u8 (0), .int .u8 (0), .int .u8 (0), .int .u8 (0), .int .u8 (0), .int .u8 (0), .int .u8 (0), .int .u8 (0), .int .u8 (0), .int .u8 (0), .int .u8 (0), .int .u8 (0), .int .u8 (0), .int .u8 (0), .int .u8 (0), .int .u8 (0), .int .u8 (0), .int .u8 (0), .int .u8 (0), .int .u8 (0), .int .u8 (0), .int .u8 (0), .int .u8 (0), .int .u8 (0), .int .u8 (0), .int .u8 (0), .int .u8 (0), .int .u8 (0), .int .u8 (0), .int .u8 (0), .int .u8 (0), .int .u8 (0), .int .u8 (0), .int .u8 (0), .int .u8 (0), .int .u8 (0), .int .u8 (0), .int .u8 (0), .int .u8 (0), .int .u8 (0), .int .u8 (0), .int .u8 (0), .int .u8 (0), .int .u8 (0), .int .u8 (0), .int .u8 (0), .int .u8 (0), .int .u8 (0), .int .u8 (0), .int .u8 (0), .int .u8 (0), .int .u8 (0), .int .u8 (0), .int .u8 (0), .int .u8 (0), .int .u8 (0), .int .u8 (0), .int .u8 (0), .int .u8 (0), .int .u8 (0), .int .u8 (0), .int .u8 (0), .int .u8 (0), .int .u8 (0), .int .u8 (0), .int .u8 (0)]⟩,
⟨153, .struct [(0, 5), (1, 5)], 2, 2, [.int .u8 (0), .int .u8 (0)]⟩,
⟨154, .array 16 153, 32, 32, [.int .u8 (0), .int .u8 (0), .int .u8 (0), .int .u8 (0), .int .u8 (0), .int .u8 (0), .int .u8 (0), .int .u8 (0), .int .u8 (0), .int .u8 (0), .int .u8 (0), .int .u8 (0), .int .u8 (0), .int .u8 (0), .int .u8 (0), .int .u8 (0), .int .u8 (0), .int .u8 (0), .int .u8 (0), .int .u8 (0), .int .u8 (0), .int .u8 (0), .int .u8 (0), .int .u8 (0), .int .u8 (0), .int .u8 (0), .int .u8 (0), .int .u8 (0), .int .u8 (0), .int .u8 (0), .int .u8 (0), .int .u8 (0)]⟩,
⟨158, .struct [(0, 9), (1, 3), (2, 27)], 3, 32, [.str [], .int .i64 (0), .int .i64 (0)]⟩,
⟨162, .int .i64, 1, 8, [.int .i64 (0)]⟩,
⟨169, .int .u32, 1, 4, [.int .u32 (0)]⟩,
⟨171, .int .u64, 1, 8, [.int .u64 (0)]⟩,
⟨175, .ptr, 1, 8, [.nilPtr]⟩]
def c3 : CFunc := X2 (show Qo tyT Tryz.f3 [] = _ from rfl)
def c4 : CFunc := X2 (show Qo tyT Tryz.f4 [] = _ from rfl)
def c5 : CFunc := X2 (show Qo tyT Tryz.f5 [] = _ from rfl)
def c6 : CFunc := X2 (show Qo tyT Tryz.f6 [false, false, false, false, true, true, false, false, true, true, false, false, true, false, false, false, false, false, false, false, false, false, false, false, false, false, false, false, false, true] = _ from rfl)
def c7 : CFunc := X2 (show Qo tyT Tryz.f7 [] = _ from rfl)
def c9 : CFunc := X2 (show Qo tyT Tryz.f9 [] = _ from rfl)
def c11 : CFunc := X2 (show Qo tyT Tryz.f11 [] = _ from rfl)
def c13 : CFunc := X2 (show Qo tyT Tryz.f13 [] = _ from rfl)
def c17 : CFunc := X2 (show Qo tyT Tryz.f17 [] = _ from rfl)
def c19 : CFunc := X2 (show Qo tyT Tryz.f19 [] = _ from rfl)
def c20 : CFunc := X2 (show Qo tyT Tryz.f20 [] = _ from rfl)
def c21 : CFunc := X2 (show Qo tyT Tryz.f21 [false, false, true, true, true] = _ from rfl)
def c22 : CFunc := X2 (show Qo tyT Tryz.f22 [] = _ from rfl)
def c24 : CFunc := X2 (show Qo tyT Tryz.f24 [] = _ from rfl)
def c25 : CFunc := X2 (show Qo tyT Tryz.f25 [] = _ from rfl)
def c26 : CFunc := X2 (show Qo tyT Tryz.f26 [] = _ from rfl)
def c28 : CFunc := X2 (show Qo tyT Tryz.f28 [] = _ from rfl)
def c29 : CFunc := X2 (show Qo tyT Tryz.f29 [] = _ from rfl)
def c30 : CFunc := X2 (show Qo tyT Tryz.f30 [] = _ from rfl)
def c33 : CFunc := X2 (show Qo tyT Tryz.f33 [] = _ from rfl)
def c34 : CFunc := X2 (show Qo tyT Tryz.f34 [false, false, true, true, true, true] = _ from rfl)
def c36 : CFunc := X2 (show Qo tyT Tryz.f36 [] = _ from rfl)
def c37 : CFunc := X2 (show Qo tyT Tryz.f37 [] = _ from rfl)
def c38 : CFunc := X2 (show Qo tyT Tryz.f38 [] = _ from rfl)
def c41 : CFunc := X2 (show Qo tyT Tryz.f41 [] = _ from rfl)
def c42 : CFunc := X2 (show Qo tyT Tryz.f42 [] = _ from rfl)
def c49 : CFunc := X2 (show Qo tyT Tryz.f49 [] = _ from rfl)
def c61 : CFunc := X2 (show Qo tyT Tryz.f61 [] = _ from rfl)
def c62 : CFunc := X2 (show Qo tyT Tryz.f62 [] = _ from rfl)
def c63 : CFunc := X2 (show Qo tyT Tryz.f63 [] = _ from rfl)
def c64 : CFunc := X2 (show Qo tyT Tryz.f64 [] = _ from rfl)
def c66 : CFunc := X2 (show Qo tyT Tryz.f66 [] = _ from rfl)
def c67 : CFunc := X2 (show Qo tyT Tryz.f67 [] = _ from rfl)
def c69 : CFunc := X2 (show Qo tyT Tryz.f69 [] = _ from rfl)
def c70 : CFunc := X2 (show Qo tyT Tryz.f70 [] = _ from rfl)
def c71 : CFunc := X2 (show Qo tyT Tryz.f71 [] = _ from rfl)
def c73 : CFunc := X2 (show Qo tyT Tryz.f73 [] = _ from rfl)
def c74 : CFunc := X2 (show Qo tyT Tryz.f74 [] = _ from rfl)
def c75 : CFunc := X2 (show Qo tyT Tryz.f75 [] = _ from rfl)
def c76 : CFunc := X2 (show Qo tyT Tryz.f76 [] = _ from rfl)
def c77 : CFunc := X2 (show Qo tyT Tryz.f77 [] = _ from rfl)
def c78 : CFunc := X2 (show Qo tyT Tryz.f78 [] = _ from rfl)
def c79 : CFunc := X2 (show Qo tyT Tryz.f79 [] = _ from rfl)
def c87 : CFunc := X2 (show Qo tyT Tryz.f87 [] = _ from rfl)
def c88 : CFunc := X2 (show Qo tyT Tryz.f88 [] = _ from rfl)
def c89 : CFunc := X2 (show Qo tyT Tryz.f89 [] = _ from rfl)
def c90 : CFunc := X2 (show Qo tyT Tryz.f90 [] = _ from rfl)
def c91 : CFunc := X2 (show Qo tyT Tryz.f91 [] = _ from rfl)
def c92 : CFunc := X2 (show Qo tyT Tryz.f92 [] = _ from rfl)
def c93 : CFunc := X2 (show Qo tyT Tryz.f93 [] = _ from rfl)
def c94 : CFunc := X2 (show Qo tyT Tryz.f94 [] = _ from rfl)
def c95 : CFunc := X2 (show Qo tyT Tryz.f95 [] = _ from rfl)
def c96 : CFunc := X2 (show Qo tyT Tryz.f96 [] = _ from rfl)
def Qvb : CFunc := X2 (show Qo tyT Tryz.f101 [] = _ from rfl)
def Qvc : CFunc := X2 (show Qo tyT Tryz.f102 [] = _ from rfl)
def Qvh : CFunc := X2 (show Qo tyT Tryz.f106 [] = _ from rfl)
def Quk : CFunc := X2 (show Qo tyT Tryz.f107 [] = _ from rfl)
def Qvg : CFunc := X2 (show Qo tyT Tryz.f109 [] = _ from rfl)
def Quq : CFunc := X2 (show Qo tyT Tryz.f110 [] = _ from rfl)
def Qvt : CFunc := X2 (show Qo tyT Tryz.f111 [] = _ from rfl)
def Qvn : CFunc := X2 (show Qo tyT Tryz.f112 [] = _ from rfl)
def Qun : CFunc := X2 (show Qo tyT Tryz.f113 [] = _ from rfl)
def Qvk : CFunc := X2 (show Qo tyT Tryz.f114 [] = _ from rfl)
def Quw : CFunc := X2 (show Qo tyT Tryz.f115 [] = _ from rfl)
def Qvo : CFunc := X2 (show Qo tyT Tryz.f116 [] = _ from rfl)
def Qvf : CFunc := X2 (show Qo tyT Tryz.f117 [] = _ from rfl)
def Qvw : CFunc := X2 (show Qo tyT Tryz.f118 [] = _ from rfl)
def Quu : CFunc := X2 (show Qo tyT Tryz.f124 [] = _ from rfl)
def Qvx : CFunc := X2 (show Qo tyT Tryz.f125 [] = _ from rfl)
def Qv2 : CFunc := X2 (show Qo tyT Tryz.f126 [] = _ from rfl)
def Qwy : CFunc := X2 (show Qo tyT Tryz.f127 [] = _ from rfl)
def Qvm : CFunc := X2 (show Qo tyT Tryz.f128 [] = _ from rfl)
def Qv7 : CFunc := X2 (show Qo tyT Tryz.f129 [] = _ from rfl)
def Qug : CFunc := X2 (show Qo tyT Tryz.f130 [] = _ from rfl)
def Quf : CFunc := X2 (show Qo tyT Tryz.f131 [] = _ from rfl)
def Qvd : CFunc := X2 (show Qo tyT Tryz.f132 [] = _ from rfl)
def Qv1 : CFunc := X2 (show Qo tyT Tryz.f133 [] = _ from rfl)
def Qv4 : CFunc := X2 (show Qo tyT Tryz.f134 [] = _ from rfl)
def Qv5 : CFunc := X2 (show Qo tyT Tryz.f135 [] = _ from rfl)
def Qum : CFunc := X2 (show Qo tyT Tryz.f136 [] = _ from rfl)
def Qv9 : CFunc := X2 (show Qo tyT Tryz.f137 [] = _ from rfl)
def Qw0 : CFunc := X2 (show Qo tyT Tryz.f138 [] = _ from rfl)
def Qxo : CFunc := X2 (show Qo tyT Tryz.f139 [] = _ from rfl)
def Qwq : CFunc := X2 (show Qo tyT Tryz.f140 [] = _ from rfl)
def Quj : CFunc := X2 (show Qo tyT Tryz.f142 [] = _ from rfl)
def Qux : CFunc := X2 (show Qo tyT Tryz.f143 [] = _ from rfl)
def Qvj : CFunc := X2 (show Qo tyT Tryz.f144 [] = _ from rfl)
def Quy : CFunc := X2 (show Qo tyT Tryz.f145 [] = _ from rfl)
def Qvz : CFunc := X2 (show Qo tyT Tryz.f146 [] = _ from rfl)
def Qul : CFunc := X2 (show Qo tyT Tryz.f147 [] = _ from rfl)
def Qut : CFunc := X2 (show Qo tyT Tryz.f148 [] = _ from rfl)
def Quz : CFunc := X2 (show Qo tyT Tryz.f149 [] = _ from rfl)
def Qw4 : CFunc := X2 (show Qo tyT Tryz.f150 [] = _ from rfl)
def Qw5 : CFunc := X2 (show Qo tyT Tryz.f151 [] = _ from rfl)
def Qwl : CFunc := X2 (show Qo tyT Tryz.f152 [] = _ from rfl)
def Qvs : CFunc := X2 (show Qo tyT Tryz.f153 [] = _ from rfl)
def Qvy : CFunc := X2 (show Qo tyT Tryz.f154 [] = _ from rfl)
def Qva : CFunc := X2 (show Qo tyT Tryz.f155 [] = _ from rfl)
def Qxc : CFunc := X2 (show Qo tyT Tryz.f156 [] = _ from rfl)
def Qui : CFunc := X2 (show Qo tyT Tryz.f157 [] = _ from rfl)
def Qvi : CFunc := X2 (show Qo tyT Tryz.f158 [] = _ from rfl)
def Qn7 : CFunc := X2 (show Qo tyT Tryz.f159 [] = _ from rfl)
def Qo0 : CFunc := X2 (show Qo tyT Tryz.f160 [] = _ from rfl)
def Qnh : CFunc := X2 (show Qo tyT Tryz.f161 [] = _ from rfl)
def Qx6 : CFunc := X2 (show Qo tyT Tryz.f162 [] = _ from rfl)
def Qwt : CFunc := X2 (show Qo tyT Tryz.f163 [] = _ from rfl)
def Qwp : CFunc := X2 (show Qo tyT Tryz.f164 [] = _ from rfl)
def Qxu : CFunc := X2 (show Qo tyT Tryz.f165 [] = _ from rfl)
def Qwc : CFunc := X2 (show Qo tyT Tryz.f166 [] = _ from rfl)
def Qw6 : CFunc := X2 (show Qo tyT Tryz.f167 [] = _ from rfl)
def Qxn : CFunc := X2 (show Qo tyT Tryz.f168 [] = _ from rfl)
def Qx9 : CFunc := X2 (show Qo tyT Tryz.f169 [] = _ from rfl)
def Qwb : CFunc := X2 (show Qo tyT Tryz.f170 [] = _ from rfl)
def Qwj : CFunc := X2 (show Qo tyT Tryz.f171 [] = _ from rfl)
def Qwh : CFunc := X2 (show Qo tyT Tryz.f172 [] = _ from rfl)
def Qxh : CFunc := X2 (show Qo tyT Tryz.f173 [] = _ from rfl)
def Qwi : CFunc := X2 (show Qo tyT Tryz.f174 [] = _ from rfl)
def Qxa : CFunc := X2 (show Qo tyT Tryz.f175 [] = _ from rfl)
def Qxv : CFunc := X2 (show Qo tyT Tryz.f176 [] = _ from rfl)
def Qwx : CFunc := X2 (show Qo tyT Tryz.f177 [] = _ from rfl)
def Qxf : CFunc := X2 (show Qo tyT Tryz.f178 [] = _ from rfl)
def Qx4 : CFunc := X2 (show Qo tyT Tryz.f179 [] = _ from rfl)
def Qxb : CFunc := X2 (show Qo tyT Tryz.f180 [] = _ from rfl)
def Qs6 : List (Option CFunc) := [none, none, none, some c3, some c4, some c5, some c6, some c7, none, some c9, none, some c11, none, some c13, none, none, none, some c17, none, some c19, some c20, some c21, some c22, none, some c24, some c25, some c26, none, some c28, some c29, some c30, none, none, some c33, some c34, none, some c36, some c37, some c38, none, none, some c41, some c42, none, none, none, none, none, none, some c49, none, none, none, none, none, none, none, none, none, none, none, some c61, some c62, some c63, some c64, none, some c66, some c67, none, some c69, some c70, some c71, none, some c73, some c74, some c75, some c76, some c77, some c78, some c79, none, none, none, none, none, none, none, some c87, some c88, some c89, some c90, some c91, some c92, some c93, some c94, some c95, some c96, none, none, none, none, some Qvb, some Qvc, none, none, none, some Qvh, some Quk, none, some Qvg, some Quq, some Qvt, some Qvn, some Qun, some Qvk, some Quw, some Qvo, some Qvf, some Qvw, none, none, none, none, none, some Quu, some Qvx, some Qv2, some Qwy, some Qvm, some Qv7, some Qug, some Quf, some Qvd, some Qv1, some Qv4, some Qv5, some Qum, some Qv9, some Qw0, some Qxo, some Qwq, none, some Quj, some Qux, some Qvj, some Quy, some Qvz, some Qul, some Qut, some Quz, some Qw4, some Qw5, some Qwl, some Qvs, some Qvy, some Qva, some Qxc, some Qui, some Qvi, some Qn7, some Qo0, some Qnh, some Qx6, some Qwt, some Qwp, some Qxu, some Qwc, some Qw6, some Qxn, some Qx9, some Qwb, some Qwj, some Qwh, some Qxh, some Qwi, some Qxa, some Qxv, some Qwx, some Qxf, some Qx4, some Qxb]
end
end Go.Av
