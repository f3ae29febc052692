/- The law. Part of a proof of a given statement: for every input the law returns true and the arguments read as before; no condition beyond the given row. -/
import Derived.Test.YtkemhhfbpniioaaGreatDoorAvGen
import Derived.Test.YtkemhhfbpniioaaGreatDoorProg
namespace Go.Av
noncomputable section
open Go.Proofs
set_option maxRecDepth 100000
def tyT : List TI := [⟨2, .int .i64, 1, 8, [.int .i64 (0)]⟩,
⟨3, .int .i64, 1, 8, [.int .i64 (0)]⟩,
⟨4, .bool, 1, 1, [.bool false]⟩,
⟨5, .int .u8, 1, 1, [.int .u8 (0)]⟩,
⟨9, .str, 1, 16, [.str []]⟩,
⟨12, .int .u64, 1, 8, [.int .u64 (0)]⟩,
⟨21, .int .i32, 1, 4, [.int .i32 (0)]⟩,
⟨22, .slice 26, 1, 24, [.nilSlice]⟩,
⟨24, .int .u64, 1, 8, [.int .u64 (0)]⟩,
⟨26, .struct [(0, 3), (1, 24), (2, 9), (3, 22)], 4, 56, [.int .i64 (0), .int .u64 (0), .str [], .nilSlice]⟩,
⟨27, .int .i64, 1, 8, [.int .i64 (0)]⟩,
⟨30, .slice 3, 1, 24, [.nilSlice]⟩,
⟨40, .other, 1, 8, [.nilFunc]⟩,
⟨42, .struct [(0, 3), (1, 3), (2, 9), (3, 22)], 4, 56, [.int .i64 (0), .int .i64 (0), .str [], .nilSlice]⟩,
⟨45, .struct [(0, 3), (1, 3)], 2, 16, [.int .i64 (0), .int .i64 (0)]⟩,
⟨57, .slice 9, 1, 24, [.nilSlice]⟩,
⟨58, .slice 27, 1, 24, [.nilSlice]⟩,
⟨73, .slice 76, 1, 24, [.nilSlice]⟩,
⟨76, .struct [(0, 3), (1, 3), (2, 3), (3, 4), (4, 4)], 5, 32, [.int .i64 (0), .int .i64 (0), .int .i64 (0), .bool false, .bool false]⟩,
⟨80, .slice 5, 1, 24, [.nilSlice]⟩,
⟨82, .struct [(0, 80)], 1, 24, [.nilSlice]⟩,
⟨84, .struct [(0, 82)], 1, 24, [.nilSlice]⟩,
⟨86, .slice 88, 1, 24, [.nilSlice]⟩,
⟨88, .struct [(0, 26), (4, 86), (5, 3), (6, 3)], 7, 96, [.int .i64 (0), .int .u64 (0), .str [], .nilSlice, .nilSlice, .int .i64 (0), .int .i64 (0)]⟩,
⟨93, .int .u64, 1, 8, [.int .u64 (0)]⟩,
⟨95, .struct [(0, 80)], 1, 24, [.nilSlice]⟩,
⟨97, .struct [(0, 95), (1, 42)], 5, 80, [.nilSlice, .int .i64 (0), .int .i64 (0), .str [], .nilSlice]⟩,
⟨103, .array 8 5, 8, 8, [.int .u8 (0), .int .u8 (0), .int .u8 (0), .int .u8 (0), .int .u8 (0), .int .u8 (0), .int .u8 (0), .int .u8 (0)]⟩,
⟨109, .ptr, 1, 8, [.nilPtr]⟩,
⟨112, .other, 1, 8, [.nilFunc]⟩,
⟨113, .map 3 112, 1, 8, [.nilMap]⟩,
⟨116, .ptr, 1, 8, [.nilPtr]⟩,
⟨120, .ptr, 1, 8, [.nilPtr]⟩,
⟨131, .other, 1, 8, [.nilFunc]⟩,
⟨134, .struct [(0, 76), (5, 26)], 9, 88, [.int .i64 (0), .int .i64 (0), .int .i64 (0), .bool false, .bool false, .int .i64 (0), .int .u64 (0), .str [], .nilSlice]⟩,
⟨135, .other, 1, 8, [.nilFunc]⟩,
⟨136, .map 3 135, 1, 8, [.nilMap]⟩,
⟨138, .other, 1, 8, [.nilFunc]⟩,
⟨139, .ptr, 1, 8, [.nilPtr]⟩,
⟨146, .struct [(0, 139), (1, 3)], 2, 16, [.nilPtr, .int .i64 (0)]⟩,
⟨151, .array 256 5, 256, 256, [.int .u8 (0), .int .u8 (0), .int .u8 (0), .int .u8 (0), .int .u8 (0), .int .u8 (0), .int .u8 (0), .int .u8 (0), .int .u8 (0), .int .u8 (0), .int .u8 (0), .int .u8 (0), .int .u8 (0), .int .u8 (0), .int .u8 (0), .int .u8 (0), .int .u8 (0), .int .u8 (0), .int .u8 (0), .int .u8 (0), .int .u8 (0), .int .u8 (0), .int .u8 (0), .int .u8 (0), .int .u8 (0), .int .u8 (0), .int .u8 (0), .int .u8 (0), .int .u8 (0), .int .u8 (0), .int .u8 (0), .int .u8 (0), .int .u8 (0), .int .u8 (0), .int .u8 (0), .int .u8 (0), .int .u8 (0), .int .u8 (0), .int .u8 (0), .int .u8 (0), .int .u8 (0), .int .u8 (0), .int .u8 (0), .int .u8 (0), .int .u8 (0), .int .u8 (0), .int .u8 (0), .int .u8 (0), .int .u8 (0), .int .u8 (0), .int .u8 (0), .int .u8 (0), .int .u8 (0), .int .u8 (0), .int .u8 (0), .int .u8 (0), .int .u8 (0), .int .u8 (0), .int .u8 (0), .int .u8 (0), .int .u8 (0), .int .u8 (0), .int .u8 (0), .int .u8 (0), .int .u8 (0), .int .u8 (0), .int .u8 (0), .int .u8 (0), .int .u8 (0), .int .u8 (0), .int .u8 (0), .int .u8 (0), .int .u8 (0), .int .u8 (0), .int .u8 (0), .int .u8 (0), .int .u8 (0), .int .u8 (0), .int .u8 (0), .int .u8 (0), .int .u8 (0), .int .u8 (0), .int .u8 (0), .int .u8 (0), .int .u8 (0), .int .u8 (0), .int .u8 (0), .int .u8 (0), .int .u8 (0), .int .u8 (0), .int .u8 (0), .int .u8 (0), .int .u8 (0), .int .u8 (0), .int .u8 (0), .int .u8 (0), .int .u8 (0), .int .u8 (0), .int .u8 (0), .int .u8 (0), .int .u8 (0), .int .u8 (0), .int .u8 (0), .int .u8 (0), .int .u8 (0), .int .u8 (0), .int .u8 (0), .int .u8 (0), .int .u8 (0), .int .u8 (0), .int .u8 (0), .int .u8 (0), .int .u8 (0), .int .u8 (0), .int .u8 (0), .int .u8 (0), .int .u8 (0), .int .u8 (0), .int .u8 (0), .int .u8 (0), .int .u8 (0), .int .u8 (0), .int .u8 (0), .int .u8 (0), .int .u8 (0), .int .u8 (0), .int .u8 (0), .int .u8 (0), .int .u8 (0), .int .u8 (0), .int .u8 (0), .int .u8 (0), .int .u8 (0), .int .u8 (0), .int .u8 (0), .int .u8 (0), .int .u8 (0), .int .u8 (0), .int .u8 (0), .int .u8 (0), .int .u8 (0), .int .u8 (0), .int .u8 (0), .int .u8 (0), .int .u8 (0), .int .u8 (0), .int .u8 (0), .int .u8 (0), .int .u8 (0), .int .u8 (0), .int .u8 (0), .int .u8 (0), .int .u8 (0), .int .u8 (0), .int .u8 (0), .int .u8 (0), .int .u8 (0), .int .u8 (0), .int .u8 (0), .int .u8 (0), .int .u8 (0), .int .u8 (0), .int .u8 (0), .int .u8 (0), .int .u8 (0), .int .u8 (0), .int .u8 (0), .int .u8 (0), .int .u8 (0), .int .u8 (0), .int .u8 (0), .int .u8 (0), .int .u8 (0), .int .u8 (0), .int .u8 (0), .int .u8 (0), .int .u8 (0), .int .u8 (0), .int .u8 (0), .int .u8 (0), .int .u8 (0), .int .u8 (0), .int .u8 (0), .int .u8 (0), .int .u8 (0), .int .u8 (0), .int .u8 (0), .int .u8 (0), .int .u8 (0), .int .u8 (0), .int .u8 (0), .int .u8 (0), .int .u8 (0), .int .u8 (0), .int .u8 (0), .int .u8 (0), .int .u8 (0), .int .u8 (0), .int .u8 (0), .int .u8 (0), .int .u8 (0), .int .u8 (0), .int .u8 (0), .int .u8 (0), .int .u8 (0), .int .u8 (0), .int .u8 (0), .int .u8 (0), .int .u8 (0), .int .u8 (0), .int .u8 (0), .int .u8 (0), .int .u8 (0), .int .u8 (0), .int .u8 (0), .int .u8 (0), .int .u8 (0), .int .u8 (0), .int .u8 (0), .int .u8 (0), .int .u8 (0), .int .u8 (0), .int .u8 (0), .int .u8 (0), .int .u8 (0), .int .u8 (0), .int .u8 (0), .int .u8 (0), .int .u8 (0), .int .u8 (0), .int .u8 (0), .int .u8 (0), .int .u8 (0), .int .u8 (0), .int .u8 (0), .int .u8 (0), .int .u8 (0), .int .u8 (0), .int .u8 (0), .int .u8 (0), .int .u8 (0), .int .u8 (0), .int .u8 (0), .int .u8 (0), .int .u8 (0), .int .u8 (0), .int .u8 (0), .int .u8 (0), .int .u8 (0), .int .u8 (0), .int .u8 (0), .int .u8 (0), .int .u8 (0), .int .u8 (0), .int .u8 (0), .int .u8 (0)]⟩,
⟨153, .struct [(0, 5), (1, 5)], 2, 2, [.int .u8 (0), .int .u8 (0)]⟩,
⟨154, .array 16 153, 32, 32, [.int .u8 (0), .int .u8 (0), .int .u8 (0), .int .u8 (0), .int .u8 (0), .int .u8 (0), .int .u8 (0), .int .u8 (0), .int .u8 (0), .int .u8 (0), .int .u8 (0), .int .u8 (0), .int .u8 (0), .int .u8 (0), .int .u8 (0), .int .u8 (0), .int .u8 (0), .int .u8 (0), .int .u8 (0), .int .u8 (0), .int .u8 (0), .int .u8 (0), .int .u8 (0), .int .u8 (0), .int .u8 (0), .int .u8 (0), .int .u8 (0), .int .u8 (0), .int .u8 (0), .int .u8 (0), .int .u8 (0), .int .u8 (0)]⟩,
⟨158, .struct [(0, 9), (1, 3), (2, 27)], 3, 32, [.str [], .int .i64 (0), .int .i64 (0)]⟩,
⟨162, .int .i64, 1, 8, [.int .i64 (0)]⟩,
⟨169, .int .u32, 1, 4, [.int .u32 (0)]⟩,
⟨171, .int .u64, 1, 8, [.int .u64 (0)]⟩,
⟨175, .ptr, 1, 8, [.nilPtr]⟩]
def c3 : CFunc := Ys (show Qo tyT Tryz.f3 [] = _ from rfl)
def c4 : CFunc := Ys (show Qo tyT Tryz.f4 [] = _ from rfl)
def c5 : CFunc := Ys (show Qo tyT Tryz.f5 [] = _ from rfl)
def c6 : CFunc := Ys (show Qo tyT Tryz.f6 [false, false, false, false, true, true, false, false, true, true, false, false, true, false, false, false, false, false, false, false, false, false, false, false, false, false, false, false, false, true] = _ from rfl)
def c7 : CFunc := Ys (show Qo tyT Tryz.f7 [] = _ from rfl)
def c9 : CFunc := Ys (show Qo tyT Tryz.f9 [] = _ from rfl)
def c12 : CFunc := Ys (show Qo tyT Tryz.f12 [] = _ from rfl)
def c13 : CFunc := Ys (show Qo tyT Tryz.f13 [] = _ from rfl)
def c14 : CFunc := Ys (show Qo tyT Tryz.f14 [] = _ from rfl)
def c15 : CFunc := Ys (show Qo tyT Tryz.f15 [] = _ from rfl)
def c16 : CFunc := Ys (show Qo tyT Tryz.f16 [] = _ from rfl)
def c17 : CFunc := Ys (show Qo tyT Tryz.f17 [] = _ from rfl)
def c18 : CFunc := Ys (show Qo tyT Tryz.f18 [] = _ from rfl)
def c19 : CFunc := Ys (show Qo tyT Tryz.f19 [] = _ from rfl)
def c20 : CFunc := Ys (show Qo tyT Tryz.f20 [] = _ from rfl)
def c21 : CFunc := Ys (show Qo tyT Tryz.f21 [false, false, true, true, true] = _ from rfl)
def c22 : CFunc := Ys (show Qo tyT Tryz.f22 [] = _ from rfl)
def c23 : CFunc := Ys (show Qo tyT Tryz.f23 [] = _ from rfl)
def c25 : CFunc := Ys (show Qo tyT Tryz.f25 [] = _ from rfl)
def c27 : CFunc := Ys (show Qo tyT Tryz.f27 [] = _ from rfl)
def c28 : CFunc := Ys (show Qo tyT Tryz.f28 [] = _ from rfl)
def c29 : CFunc := Ys (show Qo tyT Tryz.f29 [] = _ from rfl)
def c30 : CFunc := Ys (show Qo tyT Tryz.f30 [] = _ from rfl)
def c31 : CFunc := Ys (show Qo tyT Tryz.f31 [] = _ from rfl)
def c32 : CFunc := Ys (show Qo tyT Tryz.f32 [] = _ from rfl)
def c33 : CFunc := Ys (show Qo tyT Tryz.f33 [] = _ from rfl)
def c34 : CFunc := Ys (show Qo tyT Tryz.f34 [false, false, true, true, true, true] = _ from rfl)
def c35 : CFunc := Ys (show Qo tyT Tryz.f35 [] = _ from rfl)
def c39 : CFunc := Ys (show Qo tyT Tryz.f39 [] = _ from rfl)
def c49 : CFunc := Ys (show Qo tyT Tryz.f49 [] = _ from rfl)
def c53 : CFunc := Ys (show Qo tyT Tryz.f53 [] = _ from rfl)
def c54 : CFunc := Ys (show Qo tyT Tryz.f54 [] = _ from rfl)
def c55 : CFunc := Ys (show Qo tyT Tryz.f55 [] = _ from rfl)
def c56 : CFunc := Ys (show Qo tyT Tryz.f56 [] = _ from rfl)
def c57 : CFunc := Ys (show Qo tyT Tryz.f57 [] = _ from rfl)
def c58 : CFunc := Ys (show Qo tyT Tryz.f58 [] = _ from rfl)
def c59 : CFunc := Ys (show Qo tyT Tryz.f59 [] = _ from rfl)
def c60 : CFunc := Ys (show Qo tyT Tryz.f60 [] = _ from rfl)
def c61 : CFunc := Ys (show Qo tyT Tryz.f61 [] = _ from rfl)
def c62 : CFunc := Ys (show Qo tyT Tryz.f62 [] = _ from rfl)
def c63 : CFunc := Ys (show Qo tyT Tryz.f63 [] = _ from rfl)
def c64 : CFunc := Ys (show Qo tyT Tryz.f64 [] = _ from rfl)
def c65 : CFunc := Ys (show Qo tyT Tryz.f65 [] = _ from rfl)
def c66 : CFunc := Ys (show Qo tyT Tryz.f66 [] = _ from rfl)
def c67 : CFunc := Ys (show Qo tyT Tryz.f67 [] = _ from rfl)
def c68 : CFunc := Ys (show Qo tyT Tryz.f68 [] = _ from rfl)
def c72 : CFunc := Ys (show Qo tyT Tryz.f72 [] = _ from rfl)
def c73 : CFunc := Ys (show Qo tyT Tryz.f73 [] = _ from rfl)
def c74 : CFunc := Ys (show Qo tyT Tryz.f74 [] = _ from rfl)
def c75 : CFunc := Ys (show Qo tyT Tryz.f75 [] = _ from rfl)
def c76 : CFunc := Ys (show Qo tyT Tryz.f76 [] = _ from rfl)
def c78 : CFunc := Ys (show Qo tyT Tryz.f78 [] = _ from rfl)
def c82 : CFunc := Ys (show Qo tyT Tryz.f82 [] = _ from rfl)
def c83 : CFunc := Ys (show Qo tyT Tryz.f83 [] = _ from rfl)
def c84 : CFunc := Ys (show Qo tyT Tryz.f84 [] = _ from rfl)
def c85 : CFunc := Ys (show Qo tyT Tryz.f85 [] = _ from rfl)
def c86 : CFunc := Ys (show Qo tyT Tryz.f86 [false, false, false, false, false, true, false, true, true, true, false, true, true, true] = _ from rfl)
def c87 : CFunc := Ys (show Qo tyT Tryz.f87 [] = _ from rfl)
def c88 : CFunc := Ys (show Qo tyT Tryz.f88 [] = _ from rfl)
def c89 : CFunc := Ys (show Qo tyT Tryz.f89 [] = _ from rfl)
def c90 : CFunc := Ys (show Qo tyT Tryz.f90 [] = _ from rfl)
def c91 : CFunc := Ys (show Qo tyT Tryz.f91 [] = _ from rfl)
def c92 : CFunc := Ys (show Qo tyT Tryz.f92 [] = _ from rfl)
def c93 : CFunc := Ys (show Qo tyT Tryz.f93 [] = _ from rfl)
def c94 : CFunc := Ys (show Qo tyT Tryz.f94 [] = _ from rfl)
def c95 : CFunc := Ys (show Qo tyT Tryz.f95 [] = _ from rfl)
def c96 : CFunc := Ys (show Qo tyT Tryz.f96 [] = _ from rfl)
def c97 : CFunc := Ys (show Qo tyT Tryz.f97 [] = _ from rfl)
def c98 : CFunc := Ys (show Qo tyT Tryz.f98 [] = _ from rfl)
def c99 : CFunc := Ys (show Qo tyT Tryz.f99 [] = _ from rfl)
def Qyi : CFunc := Ys (show Qo tyT Tryz.f100 [] = _ from rfl)
def Qy5 : CFunc := Ys (show Qo tyT Tryz.f102 [] = _ from rfl)
def Qxl : CFunc := Ys (show Qo tyT Tryz.f103 [] = _ from rfl)
def Qy7 : CFunc := Ys (show Qo tyT Tryz.f104 [] = _ from rfl)
def Qxc : CFunc := Ys (show Qo tyT Tryz.f105 [] = _ from rfl)
def Qyd : CFunc := Ys (show Qo tyT Tryz.f106 [] = _ from rfl)
def Qxi : CFunc := Ys (show Qo tyT Tryz.f107 [] = _ from rfl)
def Qwu : CFunc := Ys (show Qo tyT Tryz.f108 [] = _ from rfl)
def Qwz : CFunc := Ys (show Qo tyT Tryz.f109 [] = _ from rfl)
def Qy9 : CFunc := Ys (show Qo tyT Tryz.f110 [] = _ from rfl)
def Qya : CFunc := Ys (show Qo tyT Tryz.f111 [] = _ from rfl)
def Qy1 : CFunc := Ys (show Qo tyT Tryz.f112 [] = _ from rfl)
def Qyh : CFunc := Ys (show Qo tyT Tryz.f113 [] = _ from rfl)
def Qx2 : CFunc := Ys (show Qo tyT Tryz.f114 [] = _ from rfl)
def Qy6 : CFunc := Ys (show Qo tyT Tryz.f115 [] = _ from rfl)
def Qwx : CFunc := Ys (show Qo tyT Tryz.f116 [] = _ from rfl)
def Qx0 : CFunc := Ys (show Qo tyT Tryz.f117 [] = _ from rfl)
def Qxr : CFunc := Ys (show Qo tyT Tryz.f118 [] = _ from rfl)
def Qxg : CFunc := Ys (show Qo tyT Tryz.f119 [] = _ from rfl)
def Qx3 : CFunc := Ys (show Qo tyT Tryz.f120 [] = _ from rfl)
def Qxu : CFunc := Ys (show Qo tyT Tryz.f121 [] = _ from rfl)
def Qx7 : CFunc := Ys (show Qo tyT Tryz.f122 [] = _ from rfl)
def Qx8 : CFunc := Ys (show Qo tyT Tryz.f123 [] = _ from rfl)
def Qx6 : CFunc := Ys (show Qo tyT Tryz.f124 [] = _ from rfl)
def Qx5 : CFunc := Ys (show Qo tyT Tryz.f125 [] = _ from rfl)
def Qy2 : CFunc := Ys (show Qo tyT Tryz.f126 [] = _ from rfl)
def Z0a : CFunc := Ys (show Qo tyT Tryz.f127 [] = _ from rfl)
def Qy0 : CFunc := Ys (show Qo tyT Tryz.f128 [] = _ from rfl)
def Qww : CFunc := Ys (show Qo tyT Tryz.f129 [] = _ from rfl)
def Qx1 : CFunc := Ys (show Qo tyT Tryz.f130 [] = _ from rfl)
def Qxz : CFunc := Ys (show Qo tyT Tryz.f131 [] = _ from rfl)
def Qxt : CFunc := Ys (show Qo tyT Tryz.f132 [] = _ from rfl)
def Qxd : CFunc := Ys (show Qo tyT Tryz.f133 [] = _ from rfl)
def Qyb : CFunc := Ys (show Qo tyT Tryz.f134 [] = _ from rfl)
def Qxq : CFunc := Ys (show Qo tyT Tryz.f135 [] = _ from rfl)
def Qxj : CFunc := Ys (show Qo tyT Tryz.f136 [] = _ from rfl)
def Qye : CFunc := Ys (show Qo tyT Tryz.f137 [] = _ from rfl)
def Qxe : CFunc := Ys (show Qo tyT Tryz.f138 [] = _ from rfl)
def Qzq : CFunc := Ys (show Qo tyT Tryz.f139 [] = _ from rfl)
def Z08 : CFunc := Ys (show Qo tyT Tryz.f140 [] = _ from rfl)
def Qxh : CFunc := Ys (show Qo tyT Tryz.f141 [] = _ from rfl)
def Qxp : CFunc := Ys (show Qo tyT Tryz.f142 [] = _ from rfl)
def Qwt : CFunc := Ys (show Qo tyT Tryz.f143 [] = _ from rfl)
def Qy4 : CFunc := Ys (show Qo tyT Tryz.f144 [] = _ from rfl)
def Qxx : CFunc := Ys (show Qo tyT Tryz.f145 [] = _ from rfl)
def Qy3 : CFunc := Ys (show Qo tyT Tryz.f146 [] = _ from rfl)
def Qyg : CFunc := Ys (show Qo tyT Tryz.f147 [] = _ from rfl)
def Qxn : CFunc := Ys (show Qo tyT Tryz.f148 [] = _ from rfl)
def Qx9 : CFunc := Ys (show Qo tyT Tryz.f149 [] = _ from rfl)
def Z0k : CFunc := Ys (show Qo tyT Tryz.f150 [] = _ from rfl)
def Qzp : CFunc := Ys (show Qo tyT Tryz.f151 [] = _ from rfl)
def Qz3 : CFunc := Ys (show Qo tyT Tryz.f152 [] = _ from rfl)
def Qxa : CFunc := Ys (show Qo tyT Tryz.f153 [] = _ from rfl)
def Qyf : CFunc := Ys (show Qo tyT Tryz.f154 [] = _ from rfl)
def Qwy : CFunc := Ys (show Qo tyT Tryz.f155 [] = _ from rfl)
def Qyl : CFunc := Ys (show Qo tyT Tryz.f156 [] = _ from rfl)
def Qyc : CFunc := Ys (show Qo tyT Tryz.f157 [] = _ from rfl)
def Qxk : CFunc := Ys (show Qo tyT Tryz.f158 [] = _ from rfl)
def Qpe : CFunc := Ys (show Qo tyT Tryz.f159 [] = _ from rfl)
def Qpn : CFunc := Ys (show Qo tyT Tryz.f160 [] = _ from rfl)
def Qr3 : CFunc := Ys (show Qo tyT Tryz.f161 [] = _ from rfl)
def Z0s : CFunc := Ys (show Qo tyT Tryz.f162 [] = _ from rfl)
def Z0i : CFunc := Ys (show Qo tyT Tryz.f163 [] = _ from rfl)
def Qz8 : CFunc := Ys (show Qo tyT Tryz.f164 [] = _ from rfl)
def Z05 : CFunc := Ys (show Qo tyT Tryz.f165 [] = _ from rfl)
def Qzs : CFunc := Ys (show Qo tyT Tryz.f166 [] = _ from rfl)
def Qyn : CFunc := Ys (show Qo tyT Tryz.f167 [] = _ from rfl)
def Z02 : CFunc := Ys (show Qo tyT Tryz.f168 [] = _ from rfl)
def Qzj : CFunc := Ys (show Qo tyT Tryz.f169 [] = _ from rfl)
def Qzd : CFunc := Ys (show Qo tyT Tryz.f170 [] = _ from rfl)
def Qze : CFunc := Ys (show Qo tyT Tryz.f171 [] = _ from rfl)
def Qzf : CFunc := Ys (show Qo tyT Tryz.f172 [] = _ from rfl)
def Qyu : CFunc := Ys (show Qo tyT Tryz.f173 [] = _ from rfl)
def Z0d : CFunc := Ys (show Qo tyT Tryz.f174 [] = _ from rfl)
def Z04 : CFunc := Ys (show Qo tyT Tryz.f175 [] = _ from rfl)
def Qz5 : CFunc := Ys (show Qo tyT Tryz.f176 [] = _ from rfl)
def Qzu : CFunc := Ys (show Qo tyT Tryz.f177 [] = _ from rfl)
def Qzm : CFunc := Ys (show Qo tyT Tryz.f178 [] = _ from rfl)
def Z0q : CFunc := Ys (show Qo tyT Tryz.f179 [] = _ from rfl)
def Qzt : CFunc := Ys (show Qo tyT Tryz.f180 [] = _ from rfl)
def Qvm : List (Option CFunc) := [none, none, none, some c3, some c4, some c5, some c6, some c7, none, some c9, none, none, some c12, some c13, some c14, some c15, some c16, some c17, some c18, some c19, some c20, some c21, some c22, some c23, none, some c25, none, some c27, some c28, some c29, some c30, some c31, some c32, some c33, some c34, some c35, none, none, none, some c39, none, none, none, none, none, none, none, none, none, some c49, none, none, none, some c53, some c54, some c55, some c56, some c57, some c58, some c59, some c60, some c61, some c62, some c63, some c64, some c65, some c66, some c67, some c68, none, none, none, some c72, some c73, some c74, some c75, some c76, none, some c78, none, none, none, some c82, some c83, some c84, some c85, some c86, some c87, some c88, some c89, some c90, some c91, some c92, some c93, some c94, some c95, some c96, some c97, some c98, some c99, some Qyi, none, some Qy5, some Qxl, some Qy7, some Qxc, some Qyd, some Qxi, some Qwu, some Qwz, some Qy9, some Qya, some Qy1, some Qyh, some Qx2, some Qy6, some Qwx, some Qx0, some Qxr, some Qxg, some Qx3, some Qxu, some Qx7, some Qx8, some Qx6, some Qx5, some Qy2, some Z0a, some Qy0, some Qww, some Qx1, some Qxz, some Qxt, some Qxd, some Qyb, some Qxq, some Qxj, some Qye, some Qxe, some Qzq, some Z08, some Qxh, some Qxp, some Qwt, some Qy4, some Qxx, some Qy3, some Qyg, some Qxn, some Qx9, some Z0k, some Qzp, some Qz3, some Qxa, some Qyf, some Qwy, some Qyl, some Qyc, some Qxk, some Qpe, some Qpn, some Qr3, some Z0s, some Z0i, some Qz8, some Z05, some Qzs, some Qyn, some Z02, some Qzj, some Qzd, some Qze, some Qzf, some Qyu, some Z0d, some Z04, some Qz5, some Qzu, some Qzm, some Z0q, some Qzt]
end
end Go.Av
