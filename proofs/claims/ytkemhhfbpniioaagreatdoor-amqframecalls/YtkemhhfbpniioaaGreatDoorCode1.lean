/- The law. Part of a proof of a given statement: for every input the law returns true and the arguments read as before; no condition beyond the given row. -/
import Derived.Test.YtkemhhfbpniioaaGreatDoorAvGen
import Derived.Test.YtkemhhfbpniioaaGreatDoorProg
namespace Go.Av
noncomputable section
open Go.Proofs
set_option maxRecDepth 100000
def tyT : List TI := [⟨2, .int .i64, 1, 8, [.int .i64 (0)]⟩,
⟨3, .int .i64, 1, 8, [.int .i64 (0)]⟩,
⟨4, .bool, 1, 1, [.bool false]⟩,
⟨5, .int .u8, 1, 1, [.int .u8 (0)]⟩,
⟨9, .str, 1, 16, [.str []]⟩,
⟨12, .int .u64, 1, 8, [.int .u64 (0)]⟩,
⟨21, .int .i32, 1, 4, [.int .i32 (0)]⟩,
⟨22, .slice 26, 1, 24, [.nilSlice]⟩,
⟨24, .int .u64, 1, 8, [.int .u64 (0)]⟩,
⟨26, .struct [(0, 3), (1, 24), (2, 9), (3, 22)], 4, 56, [.int .i64 (0), .int .u64 (0), .str [], .nilSlice]⟩,
⟨27, .int .i64, 1, 8, [.int .i64 (0)]⟩,
⟨30, .slice 3, 1, 24, [.nilSlice]⟩,
⟨40, .other, 1, 8, [.nilFunc]⟩,
⟨42, .struct [(0, 3), (1, 3), (2, 9), (3, 22)], 4, 56, [.int .i64 (0), .int .i64 (0), .str [], .nilSlice]⟩,
⟨45, .struct [(0, 3), (1, 3)], 2, 16, [.int .i64 (0), .int .i64 (0)]⟩,
⟨57, .slice 9, 1, 24, [.nilSlice]⟩,
⟨58, .slice 27, 1, 24, [.nilSlice]⟩,
⟨73, .slice 76, 1, 24, [.nilSlice]⟩,
⟨76, .struct [(0, 3), (1, 3), (2, 3), (3, 4), (4, 4)], 5, 32, [.int .i64 (0), .int .i64 (0), .int .i64 (0), .bool false, .bool false]⟩,
⟨80, .slice 5, 1, 24, [.nilSlice]⟩,
⟨82, .struct [(0, 80)], 1, 24, [.nilSlice]⟩,
⟨84, .struct [(0, 82)], 1, 24, [.nilSlice]⟩,
⟨86, .slice 88, 1, 24, [.nilSlice]⟩,
⟨88, .struct [(0, 26), (4, 86), (5, 3), (6, 3)], 7, 96, [.int .i64 (0), .int .u64 (0), .str [], .nilSlice, .nilSlice, .int .i64 (0), .int .i64 (0)]⟩,
⟨93, .int .u64, 1, 8, [.int .u64 (0)]⟩,
⟨95, .struct [(0, 80)], 1, 24, [.nilSlice]⟩,
⟨97, .struct [(0, 95), (1, 42)], 5, 80, [.nilSlice, .int .i64 (0), .int .i64 (0), .str [], .nilSlice]⟩,
⟨103, .array 8 5, 8, 8, [.int .u8 (0), .int .u8 (0), .int .u8 (0), .int .u8 (0), .int .u8 (0), .int .u8 (0), .int .u8 (0), .int .u8 (0)]⟩,
⟨109, .ptr, 1, 8, [.nilPtr]⟩,
⟨112, .other, 1, 8, [.nilFunc]⟩,
⟨113, .map 3 112, 1, 8, [.nilMap]⟩,
⟨116, .ptr, 1, 8, [.nilPtr]⟩,
⟨120, .ptr, 1, 8, [.nilPtr]⟩,
⟨131, .other, 1, 8, [.nilFunc]⟩,
⟨134, .struct [(0, 76), (5, 26)], 9, 88, [.int .i64 (0), .int .i64 (0), .int .i64 (0), .bool false, .bool false, .int .i64 (0), .int .u64 (0), .str [], .nilSlice]⟩,
⟨135, .other, 1, 8, [.nilFunc]⟩,
⟨136, .map 3 135, 1, 8, [.nilMap]⟩,
⟨138, .other, 1, 8, [.nilFunc]⟩,
⟨139, .ptr, 1, 8, [.nilPtr]⟩,
⟨146, .struct [(0, 139), (1, 3)], 2, 16, [.nilPtr, .int .i64 (0)]⟩,
⟨151, .array 256 5, 256, 256, [.int .u8 (0), .int .u8 (0), .int .u8 (0), .int .u8 (0), .int .u8 (0), .int .u8 (0), .int .u8 (0), .int .u8 (0), .int .u8 (0), .int .u8 (0), .int .u8 (0), .int .u8 (0), .int .u8 (0), .int .u8 (0), .int .u8 (0), .int .u8 (0), .int .u8 (0), .int .u8 (0), .int .u8 (0), .int .u8 (0), .int .u8 (0), .int .u8 (0), .int .u8 (0), .int .u8 (0), .int .u8 (0), .int .u8 (0), .int .u8 (0), .int .u8 (0), .int .u8 (0), .int .u8 (0), .int .u8 (0), .int .u8 (0), .int .u8 (0), .int .u8 (0), .int .u8 (0), .int .u8 (0), .int .u8 (0), .int .u8 (0), .int .u8 (0), .int .u8 (0), .int .u8 (0), .int .u8 (0), .int .u8 (0), .int .u8 (0), .int .u8 (0), .int .u8 (0), .int .u8 (0), .int .u8 (0), .int .u8 (0), .int .u8 (0), .int .u8 (0), .int .u8 (0), .int .u8 (0), .int .u8 (0), .int .u8 (0), .int .u8 (0), .int .u8 (0), .int .u8 (0), .int .u8 (0), .int .u8 (0), .int .u8 (0), .int .u8 (0), .int .u8 (0), .int .u8 (0), .int .u8 (0), .int .u8 (0), .int .u8 (0), .int .u8 (0), .int .u8 (0), .int .u8 (0), .int .u8 (0), .int .u8 (0), .int .u8 (0), .int .u8 (0), .int .u8 (0), .int .u8 (0), .int .u8 (0), .int .u8 (0), .int .u8 (0), .int .u8 (0), .int .u8 (0), .int .u8 (0), .int .u8 (0), .int .u8 (0), .int .u8 (0), .int .u8 (0), .int .u8 (0), .int .u8 (0), .int .u8 (0), .int .u8 (0), .int .u8 (0), .int .u8 (0), .int .u8 (0), .int .u8 (0), .int .u8 (0), .int .u8 (0), .int .u8 (0), .int .u8 (0), .int .u8 (0), .int .u8 (0), .int .u8 (0), .int .u8 (0), .int .u8 (0), .int .u8 (0), .int .u8 (0), .int .u8 (0), .int .u8 (0), .int .u8 (0), .int .u8 (0), .int .u8 (0), .int .u8 (0), .int .u8 (0), .int .u8 (0), .int .u8 (0), .int .u8 (0), .int .u8 (0), .int .u8 (0), .int .u8 (0), .int .u8 (0), .int .u8 (0), .int .u8 (0), .int .u8 (0), .int .u8 (0), .int .u8 (0), .int .u8 (0), .int .u8 (0), .int .u8 (0), .int .u8 (0), .int .u8 (0), .int .u8 (0), .int .u8 (0), .int .u8 (0), .int .u8 (0), .int .u8 (0), .int .u8 (0), .int .u8 (0), .int .u8 (0), .int .u8 (0), .int .u8 (0), .int .u8 (0), .int .u8 (0), .int .u8 (0), .int .u8 (0), .int .u8 (0), .int .u8 (0), .int .u8 (0), .int .u8 (0), .int .u8 (0), .int .u8 (0), .int .u8 (0), .int .u8 (0), .int .u8 (0), .int .u8 (0), .int .u8 (0), .int .u8 (0), .int .u8 (0), .int .u8 (0), .int .u8 (0), .int .u8 (0), .int .u8 (0), .int .u8 (0), .int .u8 (0), .int .u8 (0), .int .u8 (0), .int .u8 (0), .int .u8 (0), .int .u8 (0), .int .u8 (0), .int .u8 (0), .int .u8 (0), .int .u8 (0), .int .u8 (0), .int .u8 (0), .int .u8 (0), .int .u8 (0), .int .u8 (0), .int .u8 (0), .int .u8 (0), .int .u8 (0), .int .u8 (0), .int .u8 (0), .int .u8 (0), .int .u8 (0), .int .u8 (0), .int .u8 (0), .int .u8 (0), .int .u8 (0), .int .u8 (0), .int .u8 (0), .int .u8 (0), .int .u8 (0), .int .u8 (0), .int .u8 (0), .int .u8 (0), .int .u8 (0), .int .u8 (0), .int .u8 (0), .int .u8 (0), .int .u8 (0), .int .u8 (0), .int .u8 (0), .int .u8 (0), .int .u8 (0), .int .u8 (0), .int .u8 (0), .int .u8 (0), .int .u8 (0), .int .u8 (0), .int .u8 (0), .int .u8 (0), .int .u8 (0), .int .u8 (0), .int .u8 (0), .int .u8 (0), .int .u8 (0), .int .u8 (0), .int .u8 (0), .int .u8 (0), .int .u8 (0), .int .u8 (0), .int .u8 (0), .int .u8 (0), .int .u8 (0), .int .u8 (0), .int .u8 (0), .int .u8 (0), .int .u8 (0), .int .u8 (0), .int .u8 (0), .int .u8 (0), .int .u8 (0), .int .u8 (0), .int .u8 (0), .int .u8 (0), .int .u8 (0), .int .u8 (0), .int .u8 (0), .int .u8 (0), .int .u8 (0), .int .u8 (0), .int .u8 (0), .int .u8 (0), .int .u8 (0), .int .u8 (0), .int .u8 (0), .int .u8 (0), .int .u8 (0), .int .u8 (0), .int .u8 (0), .int .u8 (0), .int .u8 (0), .int .u8 (0), .int .u8 (0), .int .u8 (0), .int .u8 (0), .int .u8 (0)]⟩,
⟨153, .struct [(0, 5), (1, 5)], 2, 2, [.int .u8 (0), .int .u8 (0)]⟩,
⟨154, .array 16 153, 32, 32, [.int .u8 (0), .int .u8 (0), .int .u8 (0), .int .u8 (0), .int .u8 (0), .int .u8 (0), .int .u8 (0), .int .u8 (0), .int .u8 (0), .int .u8 (0), .int .u8 (0), .int .u8 (0), .int .u8 (0), .int .u8 (0), .int .u8 (0), .int .u8 (0), .int .u8 (0), .int .u8 (0), .int .u8 (0), .int .u8 (0), .int .u8 (0), .int .u8 (0), .int .u8 (0), .int .u8 (0), .int .u8 (0), .int .u8 (0), .int .u8 (0), .int .u8 (0), .int .u8 (0), .int .u8 (0), .int .u8 (0), .int .u8 (0)]⟩,
⟨158, .struct [(0, 9), (1, 3), (2, 27)], 3, 32, [.str [], .int .i64 (0), .int .i64 (0)]⟩,
⟨162, .int .i64, 1, 8, [.int .i64 (0)]⟩,
⟨169, .int .u32, 1, 4, [.int .u32 (0)]⟩,
⟨171, .int .u64, 1, 8, [.int .u64 (0)]⟩,
⟨175, .ptr, 1, 8, [.nilPtr]⟩]
def c3 : CFunc := Ye (show Qm tyT Tryz.f3 [] = _ from rfl)
def c4 : CFunc := Ye (show Qm tyT Tryz.f4 [] = _ from rfl)
def c5 : CFunc := Ye (show Qm tyT Tryz.f5 [] = _ from rfl)
def c6 : CFunc := Ye (show Qm tyT Tryz.f6 [false, false, false, false, true, true, false, false, true, true, false, false, true, false, false, false, false, false, false, false, false, false, false, false, false, false, false, false, false, true] = _ from rfl)
def c7 : CFunc := Ye (show Qm tyT Tryz.f7 [] = _ from rfl)
def c9 : CFunc := Ye (show Qm tyT Tryz.f9 [] = _ from rfl)
def c13 : CFunc := Ye (show Qm tyT Tryz.f13 [] = _ from rfl)
def c15 : CFunc := Ye (show Qm tyT Tryz.f15 [] = _ from rfl)
def c16 : CFunc := Ye (show Qm tyT Tryz.f16 [] = _ from rfl)
def c17 : CFunc := Ye (show Qm tyT Tryz.f17 [] = _ from rfl)
def c18 : CFunc := Ye (show Qm tyT Tryz.f18 [] = _ from rfl)
def c19 : CFunc := Ye (show Qm tyT Tryz.f19 [] = _ from rfl)
def c20 : CFunc := Ye (show Qm tyT Tryz.f20 [] = _ from rfl)
def c21 : CFunc := Ye (show Qm tyT Tryz.f21 [false, false, true, true, true] = _ from rfl)
def c22 : CFunc := Ye (show Qm tyT Tryz.f22 [] = _ from rfl)
def c23 : CFunc := Ye (show Qm tyT Tryz.f23 [] = _ from rfl)
def c24 : CFunc := Ye (show Qm tyT Tryz.f24 [] = _ from rfl)
def c25 : CFunc := Ye (show Qm tyT Tryz.f25 [] = _ from rfl)
def c26 : CFunc := Ye (show Qm tyT Tryz.f26 [] = _ from rfl)
def c27 : CFunc := Ye (show Qm tyT Tryz.f27 [] = _ from rfl)
def c28 : CFunc := Ye (show Qm tyT Tryz.f28 [] = _ from rfl)
def c29 : CFunc := Ye (show Qm tyT Tryz.f29 [] = _ from rfl)
def c30 : CFunc := Ye (show Qm tyT Tryz.f30 [] = _ from rfl)
def c31 : CFunc := Ye (show Qm tyT Tryz.f31 [] = _ from rfl)
def c32 : CFunc := Ye (show Qm tyT Tryz.f32 [] = _ from rfl)
def c33 : CFunc := Ye (show Qm tyT Tryz.f33 [] = _ from rfl)
def c34 : CFunc := Ye (show Qm tyT Tryz.f34 [false, false, true, true, true, true] = _ from rfl)
def c36 : CFunc := Ye (show Qm tyT Tryz.f36 [] = _ from rfl)
def c37 : CFunc := Ye (show Qm tyT Tryz.f37 [] = _ from rfl)
def c38 : CFunc := Ye (show Qm tyT Tryz.f38 [] = _ from rfl)
def c40 : CFunc := Ye (show Qm tyT Tryz.f40 [] = _ from rfl)
def c41 : CFunc := Ye (show Qm tyT Tryz.f41 [] = _ from rfl)
def c42 : CFunc := Ye (show Qm tyT Tryz.f42 [] = _ from rfl)
def c45 : CFunc := Ye (show Qm tyT Tryz.f45 [] = _ from rfl)
def c46 : CFunc := Ye (show Qm tyT Tryz.f46 [] = _ from rfl)
def c47 : CFunc := Ye (show Qm tyT Tryz.f47 [] = _ from rfl)
def c48 : CFunc := Ye (show Qm tyT Tryz.f48 [] = _ from rfl)
def c49 : CFunc := Ye (show Qm tyT Tryz.f49 [] = _ from rfl)
def c50 : CFunc := Ye (show Qm tyT Tryz.f50 [] = _ from rfl)
def c51 : CFunc := Ye (show Qm tyT Tryz.f51 [] = _ from rfl)
def c53 : CFunc := Ye (show Qm tyT Tryz.f53 [] = _ from rfl)
def c54 : CFunc := Ye (show Qm tyT Tryz.f54 [] = _ from rfl)
def c55 : CFunc := Ye (show Qm tyT Tryz.f55 [] = _ from rfl)
def c56 : CFunc := Ye (show Qm tyT Tryz.f56 [] = _ from rfl)
def c57 : CFunc := Ye (show Qm tyT Tryz.f57 [] = _ from rfl)
def c58 : CFunc := Ye (show Qm tyT Tryz.f58 [] = _ from rfl)
def c59 : CFunc := Ye (show Qm tyT Tryz.f59 [] = _ from rfl)
def c60 : CFunc := Ye (show Qm tyT Tryz.f60 [] = _ from rfl)
def c61 : CFunc := Ye (show Qm tyT Tryz.f61 [] = _ from rfl)
def c62 : CFunc := Ye (show Qm tyT Tryz.f62 [] = _ from rfl)
def c63 : CFunc := Ye (show Qm tyT Tryz.f63 [] = _ from rfl)
def c64 : CFunc := Ye (show Qm tyT Tryz.f64 [] = _ from rfl)
def c65 : CFunc := Ye (show Qm tyT Tryz.f65 [] = _ from rfl)
def c66 : CFunc := Ye (show Qm tyT Tryz.f66 [] = _ from rfl)
def c67 : CFunc := Ye (show Qm tyT Tryz.f67 [] = _ from rfl)
def c68 : CFunc := Ye (show Qm tyT Tryz.f68 [] = _ from rfl)
def c69 : CFunc := Ye (show Qm tyT Tryz.f69 [] = _ from rfl)
def c70 : CFunc := Ye (show Qm tyT Tryz.f70 [] = _ from rfl)
def c71 : CFunc := Ye (show Qm tyT Tryz.f71 [] = _ from rfl)
def c72 : CFunc := Ye (show Qm tyT Tryz.f72 [] = _ from rfl)
def c73 : CFunc := Ye (show Qm tyT Tryz.f73 [] = _ from rfl)
def c74 : CFunc := Ye (show Qm tyT Tryz.f74 [] = _ from rfl)
def c75 : CFunc := Ye (show Qm tyT Tryz.f75 [] = _ from rfl)
def c76 : CFunc := Ye (show Qm tyT Tryz.f76 [] = _ from rfl)
def c77 : CFunc := Ye (show Qm tyT Tryz.f77 [] = _ from rfl)
def c78 : CFunc := Ye (show Qm tyT Tryz.f78 [] = _ from rfl)
def c79 : CFunc := Ye (show Qm tyT Tryz.f79 [] = _ from rfl)
def c80 : CFunc := Ye (show Qm tyT Tryz.f80 [] = _ from rfl)
def c81 : CFunc := Ye (show Qm tyT Tryz.f81 [] = _ from rfl)
def c82 : CFunc := Ye (show Qm tyT Tryz.f82 [] = _ from rfl)
def c83 : CFunc := Ye (show Qm tyT Tryz.f83 [] = _ from rfl)
def c84 : CFunc := Ye (show Qm tyT Tryz.f84 [] = _ from rfl)
def c85 : CFunc := Ye (show Qm tyT Tryz.f85 [] = _ from rfl)
def c86 : CFunc := Ye (show Qm tyT Tryz.f86 [false, false, false, false, false, true, false, true, true, true, false, true, true, true] = _ from rfl)
def c87 : CFunc := Ye (show Qm tyT Tryz.f87 [] = _ from rfl)
def c88 : CFunc := Ye (show Qm tyT Tryz.f88 [] = _ from rfl)
def c89 : CFunc := Ye (show Qm tyT Tryz.f89 [] = _ from rfl)
def c90 : CFunc := Ye (show Qm tyT Tryz.f90 [] = _ from rfl)
def c91 : CFunc := Ye (show Qm tyT Tryz.f91 [] = _ from rfl)
def c92 : CFunc := Ye (show Qm tyT Tryz.f92 [] = _ from rfl)
def c93 : CFunc := Ye (show Qm tyT Tryz.f93 [] = _ from rfl)
def c94 : CFunc := Ye (show Qm tyT Tryz.f94 [] = _ from rfl)
def c95 : CFunc := Ye (show Qm tyT Tryz.f95 [] = _ from rfl)
def c96 : CFunc := Ye (show Qm tyT Tryz.f96 [] = _ from rfl)
def c97 : CFunc := Ye (show Qm tyT Tryz.f97 [] = _ from rfl)
def c98 : CFunc := Ye (show Qm tyT Tryz.f98 [] = _ from rfl)
def c99 : CFunc := Ye (show Qm tyT Tryz.f99 [] = _ from rfl)
def Z2g : CFunc := Ye (show Qm tyT Tryz.f100 [] = _ from rfl)
def Z2f : CFunc := Ye (show Qm tyT Tryz.f101 [] = _ from rfl)
def Z0s : CFunc := Ye (show Qm tyT Tryz.f102 [] = _ from rfl)
def Z1f : CFunc := Ye (show Qm tyT Tryz.f103 [] = _ from rfl)
def Z1r : CFunc := Ye (show Qm tyT Tryz.f104 [] = _ from rfl)
def Z1o : CFunc := Ye (show Qm tyT Tryz.f105 [] = _ from rfl)
def Z28 : CFunc := Ye (show Qm tyT Tryz.f106 [] = _ from rfl)
def Z11 : CFunc := Ye (show Qm tyT Tryz.f107 [] = _ from rfl)
def Z26 : CFunc := Ye (show Qm tyT Tryz.f108 [] = _ from rfl)
def Z0w : CFunc := Ye (show Qm tyT Tryz.f109 [] = _ from rfl)
def Z1q : CFunc := Ye (show Qm tyT Tryz.f110 [] = _ from rfl)
def Z0t : CFunc := Ye (show Qm tyT Tryz.f111 [] = _ from rfl)
def Z1b : CFunc := Ye (show Qm tyT Tryz.f112 [] = _ from rfl)
def Z1g : CFunc := Ye (show Qm tyT Tryz.f113 [] = _ from rfl)
def Z13 : CFunc := Ye (show Qm tyT Tryz.f114 [] = _ from rfl)
def Z14 : CFunc := Ye (show Qm tyT Tryz.f115 [] = _ from rfl)
def Z19 : CFunc := Ye (show Qm tyT Tryz.f116 [] = _ from rfl)
def Z1c : CFunc := Ye (show Qm tyT Tryz.f117 [] = _ from rfl)
def Z1i : CFunc := Ye (show Qm tyT Tryz.f118 [] = _ from rfl)
def Z1z : CFunc := Ye (show Qm tyT Tryz.f119 [] = _ from rfl)
def Z1d : CFunc := Ye (show Qm tyT Tryz.f120 [] = _ from rfl)
def Z1w : CFunc := Ye (show Qm tyT Tryz.f121 [] = _ from rfl)
def Z2d : CFunc := Ye (show Qm tyT Tryz.f122 [] = _ from rfl)
def Z18 : CFunc := Ye (show Qm tyT Tryz.f123 [] = _ from rfl)
def Z24 : CFunc := Ye (show Qm tyT Tryz.f124 [] = _ from rfl)
def Z0n : CFunc := Ye (show Qm tyT Tryz.f125 [] = _ from rfl)
def Z1j : CFunc := Ye (show Qm tyT Tryz.f126 [] = _ from rfl)
def Z2j : CFunc := Ye (show Qm tyT Tryz.f127 [] = _ from rfl)
def Z1l : CFunc := Ye (show Qm tyT Tryz.f128 [] = _ from rfl)
def Z1k : CFunc := Ye (show Qm tyT Tryz.f129 [] = _ from rfl)
def Z23 : CFunc := Ye (show Qm tyT Tryz.f130 [] = _ from rfl)
def Z2a : CFunc := Ye (show Qm tyT Tryz.f131 [] = _ from rfl)
def Z1u : CFunc := Ye (show Qm tyT Tryz.f132 [] = _ from rfl)
def Z16 : CFunc := Ye (show Qm tyT Tryz.f133 [] = _ from rfl)
def Z25 : CFunc := Ye (show Qm tyT Tryz.f134 [] = _ from rfl)
def Z17 : CFunc := Ye (show Qm tyT Tryz.f135 [] = _ from rfl)
def Z0u : CFunc := Ye (show Qm tyT Tryz.f136 [] = _ from rfl)
def Z1m : CFunc := Ye (show Qm tyT Tryz.f137 [] = _ from rfl)
def Z0o : CFunc := Ye (show Qm tyT Tryz.f138 [] = _ from rfl)
def Z31 : CFunc := Ye (show Qm tyT Tryz.f139 [] = _ from rfl)
def Z3c : CFunc := Ye (show Qm tyT Tryz.f140 [] = _ from rfl)
def Z0r : CFunc := Ye (show Qm tyT Tryz.f141 [] = _ from rfl)
def Z10 : CFunc := Ye (show Qm tyT Tryz.f142 [] = _ from rfl)
def Z0y : CFunc := Ye (show Qm tyT Tryz.f143 [] = _ from rfl)
def Z2e : CFunc := Ye (show Qm tyT Tryz.f144 [] = _ from rfl)
def Z0p : CFunc := Ye (show Qm tyT Tryz.f145 [] = _ from rfl)
def Z1a : CFunc := Ye (show Qm tyT Tryz.f146 [] = _ from rfl)
def Z2b : CFunc := Ye (show Qm tyT Tryz.f147 [] = _ from rfl)
def Z21 : CFunc := Ye (show Qm tyT Tryz.f148 [] = _ from rfl)
def Z0q : CFunc := Ye (show Qm tyT Tryz.f149 [] = _ from rfl)
def Z2y : CFunc := Ye (show Qm tyT Tryz.f150 [] = _ from rfl)
def Z4a : CFunc := Ye (show Qm tyT Tryz.f151 [] = _ from rfl)
def Z2t : CFunc := Ye (show Qm tyT Tryz.f152 [] = _ from rfl)
def Z15 : CFunc := Ye (show Qm tyT Tryz.f153 [] = _ from rfl)
def Z1e : CFunc := Ye (show Qm tyT Tryz.f154 [] = _ from rfl)
def Z1x : CFunc := Ye (show Qm tyT Tryz.f155 [] = _ from rfl)
def Z4m : CFunc := Ye (show Qm tyT Tryz.f156 [] = _ from rfl)
def Z1y : CFunc := Ye (show Qm tyT Tryz.f157 [] = _ from rfl)
def Z2h : CFunc := Ye (show Qm tyT Tryz.f158 [] = _ from rfl)
def Qsv : CFunc := Ye (show Qm tyT Tryz.f159 [] = _ from rfl)
def Qtd : CFunc := Ye (show Qm tyT Tryz.f160 [] = _ from rfl)
def Qug : CFunc := Ye (show Qm tyT Tryz.f161 [] = _ from rfl)
def Z4i : CFunc := Ye (show Qm tyT Tryz.f162 [] = _ from rfl)
def Z3v : CFunc := Ye (show Qm tyT Tryz.f163 [] = _ from rfl)
def Z2v : CFunc := Ye (show Qm tyT Tryz.f164 [] = _ from rfl)
def Z4h : CFunc := Ye (show Qm tyT Tryz.f165 [] = _ from rfl)
def Z4f : CFunc := Ye (show Qm tyT Tryz.f166 [] = _ from rfl)
def Z3n : CFunc := Ye (show Qm tyT Tryz.f167 [] = _ from rfl)
def Z4s : CFunc := Ye (show Qm tyT Tryz.f168 [] = _ from rfl)
def Z2k : CFunc := Ye (show Qm tyT Tryz.f169 [] = _ from rfl)
def Z43 : CFunc := Ye (show Qm tyT Tryz.f170 [] = _ from rfl)
def Z30 : CFunc := Ye (show Qm tyT Tryz.f171 [] = _ from rfl)
def Z38 : CFunc := Ye (show Qm tyT Tryz.f172 [] = _ from rfl)
def Z3y : CFunc := Ye (show Qm tyT Tryz.f173 [] = _ from rfl)
def Z2r : CFunc := Ye (show Qm tyT Tryz.f174 [] = _ from rfl)
def Z4o : CFunc := Ye (show Qm tyT Tryz.f175 [] = _ from rfl)
def Z3s : CFunc := Ye (show Qm tyT Tryz.f176 [] = _ from rfl)
def Z47 : CFunc := Ye (show Qm tyT Tryz.f177 [] = _ from rfl)
def Z32 : CFunc := Ye (show Qm tyT Tryz.f178 [] = _ from rfl)
def Z3g : CFunc := Ye (show Qm tyT Tryz.f179 [] = _ from rfl)
def Z4e : CFunc := Ye (show Qm tyT Tryz.f180 [] = _ from rfl)
def Qy9 : List (Option CFunc) := [none, none, none, some c3, some c4, some c5, some c6, some c7, none, some c9, none, none, none, some c13, none, some c15, some c16, some c17, some c18, some c19, some c20, some c21, some c22, some c23, some c24, some c25, some c26, some c27, some c28, some c29, some c30, some c31, some c32, some c33, some c34, none, some c36, some c37, some c38, none, some c40, some c41, some c42, none, none, some c45, some c46, some c47, some c48, some c49, some c50, some c51, none, some c53, some c54, some c55, some c56, some c57, some c58, some c59, some c60, some c61, some c62, some c63, some c64, some c65, some c66, some c67, some c68, some c69, some c70, some c71, some c72, some c73, some c74, some c75, some c76, some c77, some c78, some c79, some c80, some c81, some c82, some c83, some c84, some c85, some c86, some c87, some c88, some c89, some c90, some c91, some c92, some c93, some c94, some c95, some c96, some c97, some c98, some c99, some Z2g, some Z2f, some Z0s, some Z1f, some Z1r, some Z1o, some Z28, some Z11, some Z26, some Z0w, some Z1q, some Z0t, some Z1b, some Z1g, some Z13, some Z14, some Z19, some Z1c, some Z1i, some Z1z, some Z1d, some Z1w, some Z2d, some Z18, some Z24, some Z0n, some Z1j, some Z2j, some Z1l, some Z1k, some Z23, some Z2a, some Z1u, some Z16, some Z25, some Z17, some Z0u, some Z1m, some Z0o, some Z31, some Z3c, some Z0r, some Z10, some Z0y, some Z2e, some Z0p, some Z1a, some Z2b, some Z21, some Z0q, some Z2y, some Z4a, some Z2t, some Z15, some Z1e, some Z1x, some Z4m, some Z1y, some Z2h, some Qsv, some Qtd, some Qug, some Z4i, some Z3v, some Z2v, some Z4h, some Z4f, some Z3n, some Z4s, some Z2k, some Z43, some Z30, some Z38, some Z3y, some Z2r, some Z4o, some Z3s, some Z47, some Z32, some Z3g, some Z4e]
end
end Go.Av
