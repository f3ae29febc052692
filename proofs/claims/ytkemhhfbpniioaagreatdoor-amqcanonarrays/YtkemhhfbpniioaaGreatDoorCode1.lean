/- The law. Part of a proof of a given statement: for every input the law returns true and the arguments read as before; no condition beyond the given row. -/
import Derived.Test.YtkemhhfbpniioaaGreatDoorAvGen
import Derived.Test.YtkemhhfbpniioaaGreatDoorProg
namespace Go.Av
noncomputable section
open Go.Proofs
set_option maxRecDepth 100000
def tyT : List TI := [⟨2, .int .i64, 1, 8, [.int .i64 (0)]⟩,
⟨3, .int .i64, 1, 8, [.int .i64 (0)]⟩,
⟨4, .bool, 1, 1, [.bool false]⟩,
⟨5, .int .u8, 1, 1, [.int .u8 (0)]⟩,
⟨9, .str, 1, 16, [.str []]⟩,
⟨12, .int .u64, 1, 8, [.int .u64 (0)]⟩,
⟨21, .int .i32, 1, 4, [.int .i32 (0)]⟩,
⟨22, .slice 26, 1, 24, [.nilSlice]⟩,
⟨24, .int .u64, 1, 8, [.int .u64 (0)]⟩,
⟨26, .struct [(0, 3), (1, 24), (2, 9), (3, 22)], 4, 56, [.int .i64 (0), .int .u64 (0), .str [], .nilSlice]⟩,
⟨27, .int .i64, 1, 8, [.int .i64 (0)]⟩,
⟨30, .slice 3, 1, 24, [.nilSlice]⟩,
⟨40, .other, 1, 8, [.nilFunc]⟩,
⟨42, .struct [(0, 3), (1, 3), (2, 9), (3, 22)], 4, 56, [.int .i64 (0), .int .i64 (0), .str [], .nilSlice]⟩,
⟨45, .struct [(0, 3), (1, 3)], 2, 16, [.int .i64 (0), .int .i64 (0)]⟩,
⟨57, .slice 9, 1, 24, [.nilSlice]⟩,
⟨58, .slice 27, 1, 24, [.nilSlice]⟩,
⟨73, .slice 76, 1, 24, [.nilSlice]⟩,
⟨76, .struct [(0, 3), (1, 3), (2, 3), (3, 4), (4, 4)], 5, 32, [.int .i64 (0), .int .i64 (0), .int .i64 (0), .bool false, .bool false]⟩,
⟨80, .slice 5, 1, 24, [.nilSlice]⟩,
⟨82, .struct [(0, 80)], 1, 24, [.nilSlice]⟩,
⟨84, .struct [(0, 82)], 1, 24, [.nilSlice]⟩,
⟨86, .slice 88, 1, 24, [.nilSlice]⟩,
⟨88, .struct [(0, 26), (4, 86), (5, 3), (6, 3)], 7, 96, [.int .i64 (0), .int .u64 (0), .str [], .nilSlice, .nilSlice, .int .i64 (0), .int .i64 (0)]⟩,
⟨93, .int .u64, 1, 8, [.int .u64 (0)]⟩,
⟨95, .struct [(0, 80)], 1, 24, [.nilSlice]⟩,
⟨97, .struct [(0, 95), (1, 42)], 5, 80, [.nilSlice, .int .i64 (0), .int .i64 (0), .str [], .nilSlice]⟩,
⟨103, .array 8 5, 8, 8, [.int .u8 (0), .int .u8 (0), .int .u8 (0), .int .u8 (0), .int .u8 (0), .int .u8 (0), .int .u8 (0), .int .u8 (0)]⟩,
⟨109, .ptr, 1, 8, [.nilPtr]⟩,
⟨112, .other, 1, 8, [.nilFunc]⟩,
⟨113, .map 3 112, 1, 8, [.nilMap]⟩,
⟨116, .ptr, 1, 8, [.nilPtr]⟩,
⟨120, .ptr, 1, 8, [.nilPtr]⟩,
⟨131, .other, 1, 8, [.nilFunc]⟩,
⟨134, .struct [(0, 76), (5, 26)], 9, 88, [.int .i64 (0), .int .i64 (0), .int .i64 (0), .bool false, .bool false, .int .i64 (0), .int .u64 (0), .str [], .nilSlice]⟩,
⟨135, .other, 1, 8, [.nilFunc]⟩,
⟨136, .map 3 135, 1, 8, [.nilMap]⟩,
⟨138, .other, 1, 8, [.nilFunc]⟩,
⟨139, .ptr, 1, 8, [.nilPtr]⟩,
⟨146, .struct [(0, 139), (1, 3)], 2, 16, [.nilPtr, .int .i64 (0)]⟩,
⟨151, .array 256 5, 256, 256, [.int .u8 (0), .int .u8 (0), .int .u8 (0), .int .u8 (0), .int .u8 (0), .int .u8 (0), .int .u8 (0), .int .u8 (0), .int .u8 (0), .int .u8 (0), .int .u8 (0), .int .u8 (0), .int .u8 (0), .int .u8 (0), .int .u8 (0), .int .u8 (0), .int .u8 (0), .int .u8 (0), .int .u8 (0), .int .u8 (0), .int .u8 (0), .int .u8 (0), .int .u8 (0), .int .u8 (0), .int .u8 (0), .int .u8 (0), .int .u8 (0), .int .u8 (0), .int .u8 (0), .int .u8 (0), .int .u8 (0), .int .u8 (0), .int .u8 (0), .int .u8 (0), .int .u8 (0), .int .u8 (0), .int .u8 (0), .int .u8 (0), .int .u8 (0), .int .u8 (0), .int .u8 (0), .int .u8 (0), .int .u8 (0), .int .u8 (0), .int .u8 (0), .int .u8 (0), .int .u8 (0), .int .u8 (0), .int .u8 (0), .int .u8 (0), .int .u8 (0), .int .u8 (0), .int .u8 (0), .int .u8 (0), .int .u8 (0), .int .u8 (0), .int .u8 (0), .int .u8 (0), .int .u8 (0), .int .u8 (0), .int .u8 (0), .int .u8 (0), .int .u8 (0), .int .u8 (0), .int .u8 (0), .int .u8 (0), .int .u8 (0), .int .u8 (0), .int .u8 (0), .int .u8 (0), .int .u8 (0), .int .u8 (0), .int .u8 (0), .int .u8 (0), .int .u8 (0), .int .u8 (0), .int .u8 (0), .int .u8 (0), .int .u8 (0), .int .u8 (0), .int .u8 (0), .int .u8 (0), .int .u8 (0), .int .u8 (0), .int .u8 (0), .int .u8 (0), .int .u8 (0), .int .u8 (0), .int .u8 (0), .int .u8 (0), .int .u8 (0), .int .u8 (0), .int .u8 (0), .int .u8 (0), .int .u8 (0), .int .u8 (0), .int .u8 (0), .int .u8 (0), .int .u8 (0), .int .u8 (0), .int .u8 (0), .int .u8 (0), .int .u8 (0), .int .u8 (0), .int .u8 (0), .int .u8 (0), .int .u8 (0), .int .u8 (0), .int .u8 (0), .int .u8 (0), .int .u8 (0), .int .u8 (0), .int .u8 (0), .int .u8 (0), .int .u8 (0), .int .u8 (0), .int .u8 (0), .int .u8 (0), .int .u8 (0), .int .u8 (0), .int .u8 (0), .int .u8 (0), .int .u8 (0), .int .u8 (0), .int .u8 (0), .int .u8 (0), .int .u8 (0), .int .u8 (0), .int .u8 (0), .int .u8 (0), .int .u8 (0), .int .u8 (0), .int .u8 (0), .int .u8 (0), .int .u8 (0), .int .u8 (0), .int .u8 (0), .int .u8 (0), .int .u8 (0), .int .u8 (0), .int .u8 (0), .int .u8 (0), .int .u8 (0), .int .u8 (0), .int .u8 (0), .int .u8 (0), .int .u8 (0), .int .u8 (0), .int .u8 (0), .int .u8 (0), .int .u8 (0), .int .u8 (0), .int .u8 (0), .int .u8 (0), .int .u8 (0), .int .u8 (0), .int .u8 (0), .int .u8 (0), .int .u8 (0), .int .u8 (0), .int .u8 (0), .int .u8 (0), .int .u8 (0), .int .u8 (0), .int .u8 (0), .int .u8 (0), .int .u8 (0), .int .u8 (0), .int .u8 (0), .int .u8 (0), .int .u8 (0), .int .u8 (0), .int .u8 (0), .int .u8 (0), .int .u8 (0), .int .u8 (0), .int .u8 (0), .int .u8 (0), .int .u8 (0), .int .u8 (0), .int .u8 (0), .int .u8 (0), .int .u8 (0), .int .u8 (0), .int .u8 (0), .int .u8 (0), .int .u8 (0), .int .u8 (0), .int .u8 (0), .int .u8 (0), .int .u8 (0), .int .u8 (0), .int .u8 (0), .int .u8 (0), .int .u8 (0), .int .u8 (0), .int .u8 (0), .int .u8 (0), .int .u8 (0), .int .u8 (0), .int .u8 (0), .int .u8 (0), .int .u8 (0), .int .u8 (0), .int .u8 (0), .int .u8 (0), .int .u8 (0), .int .u8 (0), .int .u8 (0), .int .u8 (0), .int .u8 (0), .int .u8 (0), .int .u8 (0), .int .u8 (0), .int .u8 (0), .int .u8 (0), .int .u8 (0), .int .u8 (0), .int .u8 (0), .int .u8 (0), .int .u8 (0), .int .u8 (0), .int .u8 (0), .int .u8 (0), .int .u8 (0), .int .u8 (0), .int .u8 (0), .int .u8 (0), .int .u8 (0), .int .u8 (0), .int .u8 (0), .int .u8 (0), .int .u8 (0), .int .u8 (0), .int .u8 (0), .int .u8 (0), .int .u8 (0), .int .u8 (0), .int .u8 (0), .int .u8 (0), .int .u8 (0), .int .u8 (0), .int .u8 (0), .int .u8 (0), .int .u8 (0), .int .u8 (0), .int .u8 (0), .int .u8 (0), .int .u8 (0), .int .u8 (0), .int .u8 (0), .int .u8 (0), .int .u8 (0), .int .u8 (0), .int .u8 (0), .int .u8 (0)]⟩,
⟨153, .struct [(0, 5), (1, 5)], 2, 2, [.int .u8 (0), .int .u8 (0)]⟩,
⟨154, .array 16 153, 32, 32, [.int .u8 (0), .int .u8 (0), .int .u8 (0), .int .u8 (0), .int .u8 (0), .int .u8 (0), .int .u8 (0), .int .u8 (0), .int .u8 (0), .int .u8 (0), .int .u8 (0), .int .u8 (0), .int .u8 (0), .int .u8 (0), .int .u8 (0), .int .u8 (0), .int .u8 (0), .int .u8 (0), .int .u8 (0), .int .u8 (0), .int .u8 (0), .int .u8 (0), .int .u8 (0), .int .u8 (0), .int .u8 (0), .int .u8 (0), .int .u8 (0), .int .u8 (0), .int .u8 (0), .int .u8 (0), .int .u8 (0), .int .u8 (0)]⟩,
⟨158, .struct [(0, 9), (1, 3), (2, 27)], 3, 32, [.str [], .int .i64 (0), .int .i64 (0)]⟩,
⟨162, .int .i64, 1, 8, [.int .i64 (0)]⟩,
⟨169, .int .u32, 1, 4, [.int .u32 (0)]⟩,
⟨171, .int .u64, 1, 8, [.int .u64 (0)]⟩,
⟨175, .ptr, 1, 8, [.nilPtr]⟩]
def c3 : CFunc := Xs (show Qr tyT Tryz.f3 [] = _ from rfl)
def c4 : CFunc := Xs (show Qr tyT Tryz.f4 [] = _ from rfl)
def c5 : CFunc := Xs (show Qr tyT Tryz.f5 [] = _ from rfl)
def c6 : CFunc := Xs (show Qr tyT Tryz.f6 [false, false, false, false, true, true, false, false, true, true, false, false, true, false, false, false, false, false, false, false, false, false, false, false, false, false, false, false, false, true] = _ from rfl)
def c7 : CFunc := Xs (show Qr tyT Tryz.f7 [] = _ from rfl)
def c9 : CFunc := Xs (show Qr tyT Tryz.f9 [] = _ from rfl)
def c12 : CFunc := Xs (show Qr tyT Tryz.f12 [] = _ from rfl)
def c13 : CFunc := Xs (show Qr tyT Tryz.f13 [] = _ from rfl)
def c14 : CFunc := Xs (show Qr tyT Tryz.f14 [] = _ from rfl)
def c15 : CFunc := Xs (show Qr tyT Tryz.f15 [] = _ from rfl)
def c16 : CFunc := Xs (show Qr tyT Tryz.f16 [] = _ from rfl)
def c17 : CFunc := Xs (show Qr tyT Tryz.f17 [] = _ from rfl)
def c18 : CFunc := Xs (show Qr tyT Tryz.f18 [] = _ from rfl)
def c19 : CFunc := Xs (show Qr tyT Tryz.f19 [] = _ from rfl)
def c21 : CFunc := Xs (show Qr tyT Tryz.f21 [false, false, true, true, true] = _ from rfl)
def c22 : CFunc := Xs (show Qr tyT Tryz.f22 [] = _ from rfl)
def c25 : CFunc := Xs (show Qr tyT Tryz.f25 [] = _ from rfl)
def c30 : CFunc := Xs (show Qr tyT Tryz.f30 [] = _ from rfl)
def c31 : CFunc := Xs (show Qr tyT Tryz.f31 [] = _ from rfl)
def c34 : CFunc := Xs (show Qr tyT Tryz.f34 [false, false, true, true, true, true] = _ from rfl)
def c39 : CFunc := Xs (show Qr tyT Tryz.f39 [] = _ from rfl)
def c49 : CFunc := Xs (show Qr tyT Tryz.f49 [] = _ from rfl)
def c53 : CFunc := Xs (show Qr tyT Tryz.f53 [] = _ from rfl)
def c54 : CFunc := Xs (show Qr tyT Tryz.f54 [] = _ from rfl)
def c55 : CFunc := Xs (show Qr tyT Tryz.f55 [] = _ from rfl)
def c56 : CFunc := Xs (show Qr tyT Tryz.f56 [] = _ from rfl)
def c57 : CFunc := Xs (show Qr tyT Tryz.f57 [] = _ from rfl)
def c58 : CFunc := Xs (show Qr tyT Tryz.f58 [] = _ from rfl)
def c59 : CFunc := Xs (show Qr tyT Tryz.f59 [] = _ from rfl)
def c60 : CFunc := Xs (show Qr tyT Tryz.f60 [] = _ from rfl)
def c61 : CFunc := Xs (show Qr tyT Tryz.f61 [] = _ from rfl)
def c62 : CFunc := Xs (show Qr tyT Tryz.f62 [] = _ from rfl)
def c63 : CFunc := Xs (show Qr tyT Tryz.f63 [] = _ from rfl)
def c64 : CFunc := Xs (show Qr tyT Tryz.f64 [] = _ from rfl)
def c65 : CFunc := Xs (show Qr tyT Tryz.f65 [] = _ from rfl)
def c74 : CFunc := Xs (show Qr tyT Tryz.f74 [] = _ from rfl)
def c75 : CFunc := Xs (show Qr tyT Tryz.f75 [] = _ from rfl)
def c76 : CFunc := Xs (show Qr tyT Tryz.f76 [] = _ from rfl)
def c82 : CFunc := Xs (show Qr tyT Tryz.f82 [] = _ from rfl)
def c83 : CFunc := Xs (show Qr tyT Tryz.f83 [] = _ from rfl)
def c84 : CFunc := Xs (show Qr tyT Tryz.f84 [] = _ from rfl)
def c85 : CFunc := Xs (show Qr tyT Tryz.f85 [] = _ from rfl)
def c86 : CFunc := Xs (show Qr tyT Tryz.f86 [false, false, false, false, false, true, false, true, true, true, false, true, true, true] = _ from rfl)
def c87 : CFunc := Xs (show Qr tyT Tryz.f87 [] = _ from rfl)
def c88 : CFunc := Xs (show Qr tyT Tryz.f88 [] = _ from rfl)
def c89 : CFunc := Xs (show Qr tyT Tryz.f89 [] = _ from rfl)
def c90 : CFunc := Xs (show Qr tyT Tryz.f90 [] = _ from rfl)
def c91 : CFunc := Xs (show Qr tyT Tryz.f91 [] = _ from rfl)
def c92 : CFunc := Xs (show Qr tyT Tryz.f92 [] = _ from rfl)
def c93 : CFunc := Xs (show Qr tyT Tryz.f93 [] = _ from rfl)
def c94 : CFunc := Xs (show Qr tyT Tryz.f94 [] = _ from rfl)
def c95 : CFunc := Xs (show Qr tyT Tryz.f95 [] = _ from rfl)
def c96 : CFunc := Xs (show Qr tyT Tryz.f96 [] = _ from rfl)
def c97 : CFunc := Xs (show Qr tyT Tryz.f97 [] = _ from rfl)
def c98 : CFunc := Xs (show Qr tyT Tryz.f98 [] = _ from rfl)
def Qtk : CFunc := Xs (show Qr tyT Tryz.f100 [] = _ from rfl)
def Qte : CFunc := Xs (show Qr tyT Tryz.f102 [] = _ from rfl)
def Qtu : CFunc := Xs (show Qr tyT Tryz.f107 [] = _ from rfl)
def Qu2 : CFunc := Xs (show Qr tyT Tryz.f108 [] = _ from rfl)
def Qtl : CFunc := Xs (show Qr tyT Tryz.f109 [] = _ from rfl)
def Quf : CFunc := Xs (show Qr tyT Tryz.f110 [] = _ from rfl)
def Qtp : CFunc := Xs (show Qr tyT Tryz.f111 [] = _ from rfl)
def Qua : CFunc := Xs (show Qr tyT Tryz.f112 [] = _ from rfl)
def Quc : CFunc := Xs (show Qr tyT Tryz.f113 [] = _ from rfl)
def Qu3 : CFunc := Xs (show Qr tyT Tryz.f114 [] = _ from rfl)
def Qtn : CFunc := Xs (show Qr tyT Tryz.f115 [] = _ from rfl)
def Qtr : CFunc := Xs (show Qr tyT Tryz.f116 [] = _ from rfl)
def Qts : CFunc := Xs (show Qr tyT Tryz.f117 [] = _ from rfl)
def Qu1 : CFunc := Xs (show Qr tyT Tryz.f118 [] = _ from rfl)
def Qu8 : CFunc := Xs (show Qr tyT Tryz.f119 [] = _ from rfl)
def Qtf : CFunc := Xs (show Qr tyT Tryz.f120 [] = _ from rfl)
def Qui : CFunc := Xs (show Qr tyT Tryz.f121 [] = _ from rfl)
def Qvt : CFunc := Xs (show Qr tyT Tryz.f127 [] = _ from rfl)
def Qug : CFunc := Xs (show Qr tyT Tryz.f128 [] = _ from rfl)
def Qud : CFunc := Xs (show Qr tyT Tryz.f129 [] = _ from rfl)
def Qul : CFunc := Xs (show Qr tyT Tryz.f130 [] = _ from rfl)
def Qtq : CFunc := Xs (show Qr tyT Tryz.f131 [] = _ from rfl)
def Qtv : CFunc := Xs (show Qr tyT Tryz.f132 [] = _ from rfl)
def Quh : CFunc := Xs (show Qr tyT Tryz.f133 [] = _ from rfl)
def Qtt : CFunc := Xs (show Qr tyT Tryz.f134 [] = _ from rfl)
def Qub : CFunc := Xs (show Qr tyT Tryz.f135 [] = _ from rfl)
def Qu6 : CFunc := Xs (show Qr tyT Tryz.f136 [] = _ from rfl)
def Quk : CFunc := Xs (show Qr tyT Tryz.f137 [] = _ from rfl)
def Qtm : CFunc := Xs (show Qr tyT Tryz.f138 [] = _ from rfl)
def Qvp : CFunc := Xs (show Qr tyT Tryz.f139 [] = _ from rfl)
def Qw6 : CFunc := Xs (show Qr tyT Tryz.f140 [] = _ from rfl)
def Qti : CFunc := Xs (show Qr tyT Tryz.f141 [] = _ from rfl)
def Qv9 : CFunc := Xs (show Qr tyT Tryz.f150 [] = _ from rfl)
def Qw5 : CFunc := Xs (show Qr tyT Tryz.f151 [] = _ from rfl)
def Qvi : CFunc := Xs (show Qr tyT Tryz.f152 [] = _ from rfl)
def Qth : CFunc := Xs (show Qr tyT Tryz.f153 [] = _ from rfl)
def Qu7 : CFunc := Xs (show Qr tyT Tryz.f154 [] = _ from rfl)
def Qu9 : CFunc := Xs (show Qr tyT Tryz.f155 [] = _ from rfl)
def Qvh : CFunc := Xs (show Qr tyT Tryz.f156 [] = _ from rfl)
def Qwg : CFunc := Xs (show Qr tyT Tryz.f160 [] = _ from rfl)
def Quz : CFunc := Xs (show Qr tyT Tryz.f161 [] = _ from rfl)
def Qv6 : CFunc := Xs (show Qr tyT Tryz.f162 [] = _ from rfl)
def Qvd : CFunc := Xs (show Qr tyT Tryz.f163 [] = _ from rfl)
def Qus : CFunc := Xs (show Qr tyT Tryz.f164 [] = _ from rfl)
def Qv1 : CFunc := Xs (show Qr tyT Tryz.f165 [] = _ from rfl)
def Qv3 : CFunc := Xs (show Qr tyT Tryz.f166 [] = _ from rfl)
def Qvw : CFunc := Xs (show Qr tyT Tryz.f167 [] = _ from rfl)
def Qv0 : CFunc := Xs (show Qr tyT Tryz.f168 [] = _ from rfl)
def Qur : CFunc := Xs (show Qr tyT Tryz.f169 [] = _ from rfl)
def Qu4 : CFunc := Xs (show Qr tyT Tryz.f170 [] = _ from rfl)
def Qvm : CFunc := Xs (show Qr tyT Tryz.f171 [] = _ from rfl)
def Qw8 : CFunc := Xs (show Qr tyT Tryz.f172 [] = _ from rfl)
def Quo : CFunc := Xs (show Qr tyT Tryz.f173 [] = _ from rfl)
def Qun : CFunc := Xs (show Qr tyT Tryz.f174 [] = _ from rfl)
def Qvu : CFunc := Xs (show Qr tyT Tryz.f175 [] = _ from rfl)
def Qut : CFunc := Xs (show Qr tyT Tryz.f176 [] = _ from rfl)
def Qvf : CFunc := Xs (show Qr tyT Tryz.f177 [] = _ from rfl)
def Qup : CFunc := Xs (show Qr tyT Tryz.f178 [] = _ from rfl)
def Qvl : CFunc := Xs (show Qr tyT Tryz.f179 [] = _ from rfl)
def Qva : CFunc := Xs (show Qr tyT Tryz.f180 [] = _ from rfl)
def Qs4 : List (Option CFunc) := [none, none, none, some c3, some c4, some c5, some c6, some c7, none, some c9, none, none, some c12, some c13, some c14, some c15, some c16, some c17, some c18, some c19, none, some c21, some c22, none, none, some c25, none, none, none, none, some c30, some c31, none, none, some c34, none, none, none, none, some c39, none, none, none, none, none, none, none, none, none, some c49, none, none, none, some c53, some c54, some c55, some c56, some c57, some c58, some c59, some c60, some c61, some c62, some c63, some c64, some c65, none, none, none, none, none, none, none, none, some c74, some c75, some c76, none, none, none, none, none, some c82, some c83, some c84, some c85, some c86, some c87, some c88, some c89, some c90, some c91, some c92, some c93, some c94, some c95, some c96, some c97, some c98, none, some Qtk, none, some Qte, none, none, none, none, some Qtu, some Qu2, some Qtl, some Quf, some Qtp, some Qua, some Quc, some Qu3, some Qtn, some Qtr, some Qts, some Qu1, some Qu8, some Qtf, some Qui, none, none, none, none, none, some Qvt, some Qug, some Qud, some Qul, some Qtq, some Qtv, some Quh, some Qtt, some Qub, some Qu6, some Quk, some Qtm, some Qvp, some Qw6, some Qti, none, none, none, none, none, none, none, none, some Qv9, some Qw5, some Qvi, some Qth, some Qu7, some Qu9, some Qvh, none, none, none, some Qwg, some Quz, some Qv6, some Qvd, some Qus, some Qv1, some Qv3, some Qvw, some Qv0, some Qur, some Qu4, some Qvm, some Qw8, some Quo, some Qun, some Qvu, some Qut, some Qvf, some Qup, some Qvl, some Qva]
end
end Go.Av
