/- Part of the proof of CrossBack: for every input the law returns true; no condition. -/
import Derived.Test.YthdffmbnmkmhlaaGreatDoorAvGen
import Derived.Test.YthdffmbnmkmhlaaGreatDoorProg
namespace Go.Av
open Go.Proofs.Tryz
noncomputable section
open Go.Proofs
set_option maxRecDepth 100000
abbrev w6 : PV := .int .i64 0
abbrev wb : PV := .bool false
abbrev w1 : PV := .int .u8 0
abbrev w8 : PV := .int .u64 0
abbrev ws : PV := .str []
abbrev wn : PV := .nilSlice
def tyT : List TI := [⟨1, .func, 1, 8, [.nilFunc]⟩,
⟨2, .int .i64, 1, 8, [w6]⟩,
⟨3, .int .i64, 1, 8, [w6]⟩,
⟨4, .bool, 1, 1, [wb]⟩,
⟨5, .int .u8, 1, 1, [w1]⟩,
⟨9, .str, 1, 16, [ws]⟩,
⟨12, .int .u64, 1, 8, [w8]⟩,
⟨21, .int .i32, 1, 4, [.int .i32 (0)]⟩,
⟨22, .slice 89, 1, 24, [wn]⟩,
⟨23, .slice 94, 1, 24, [wn]⟩,
⟨25, .struct [(0, 9), (1, 9), (2, 3), (3, 4), (4, 22)], 5, 72, [ws, ws, w6, wb, wn]⟩,
⟨26, .slice 3, 1, 24, [wn]⟩,
⟨27, .slice 91, 1, 24, [wn]⟩,
⟨29, .struct [(0, 3), (1, 4), (2, 4), (3, 3), (4, 3), (5, 9), (6, 9), (7, 4), (8, 3), (9, 9), (10, 4), (11, 9), (12, 4), (13, 9), (14, 4), (15, 25), (20, 4), (21, 3), (22, 26), (23, 27), (24, 22)], 25, 312, [w6, wb, wb, w6, w6, ws, ws, wb, w6, ws, wb, ws, wb, ws, wb, ws, ws, w6, wb, wn, wb, w6, wn, wn, wn]⟩,
⟨31, .struct [(0, 4), (1, 3), (2, 4), (3, 4), (4, 4), (5, 3)], 6, 32, [wb, w6, wb, wb, wb, w6]⟩,
⟨33, .struct [(0, 3), (1, 31), (7, 3), (8, 3), (9, 3), (10, 4), (11, 3), (12, 3), (13, 3), (14, 9), (15, 9)], 16, 128, [w6, wb, w6, wb, wb, wb, w6, w6, w6, w6, wb, w6, w6, w6, ws, ws]⟩,
⟨34, .slice 67, 1, 24, [wn]⟩,
⟨36, .struct [(0, 3), (1, 3), (2, 9), (3, 34)], 4, 56, [w6, w6, ws, wn]⟩,
⟨38, .struct [(0, 3), (1, 3), (2, 9), (3, 9), (4, 3), (5, 4), (6, 4), (7, 3), (8, 22), (9, 3), (10, 23), (11, 3), (12, 29), (37, 33), (53, 36)], 57, 632, [w6, w6, ws, ws, w6, wb, wb, w6, wn, w6, wn, w6, w6, wb, wb, w6, w6, ws, ws, wb, w6, ws, wb, ws, wb, ws, wb, ws, ws, w6, wb, wn, wb, w6, wn, wn, wn, w6, wb, w6, wb, wb, wb, w6, w6, w6, w6, wb, w6, w6, w6, ws, ws, w6, w6, ws, wn]⟩,
⟨40, .struct [(0, 3), (1, 3)], 2, 16, [w6, w6]⟩,
⟨41, .func, 1, 8, [.nilFunc]⟩,
⟨44, .int .i64, 1, 8, [w6]⟩,
⟨63, .struct [(0, 23), (1, 33)], 17, 152, [wn, w6, wb, w6, wb, wb, wb, w6, w6, w6, w6, wb, w6, w6, w6, ws, ws]⟩,
⟨65, .int .u64, 1, 8, [w8]⟩,
⟨67, .struct [(0, 3), (1, 65), (2, 9), (3, 34)], 4, 56, [w6, w8, ws, wn]⟩,
⟨70, .array 4 67, 16, 224, [w6, w8, ws, wn, w6, w8, ws, wn, w6, w8, ws, wn, w6, w8, ws, wn]⟩,
⟨76, .func, 1, 8, [.nilFunc]⟩,
⟨80, .ptr, 1, 8, [.nilPtr]⟩,
⟨82, .struct [(0, 80), (1, 9), (2, 38)], 59, 656, [.nilPtr, ws, w6, w6, ws, ws, w6, wb, wb, w6, wn, w6, wn, w6, w6, wb, wb, w6, w6, ws, ws, wb, w6, ws, wb, ws, wb, ws, wb, ws, ws, w6, wb, wn, wb, w6, wn, wn, wn, w6, wb, w6, wb, wb, wb, w6, w6, w6, w6, wb, w6, w6, w6, ws, ws, w6, w6, ws, wn]⟩,
⟨83, .func, 1, 8, [.nilFunc]⟩,
⟨84, .map 3 83, 1, 8, [.nilMap]⟩,
⟨87, .int .u32, 1, 4, [.int .u32 (0)]⟩,
⟨89, .struct [(0, 3), (1, 87), (2, 9), (3, 9)], 4, 48, [w6, .int .u32 (0), ws, ws]⟩,
⟨91, .struct [(0, 9), (1, 3), (2, 4), (3, 4), (4, 3)], 5, 40, [ws, w6, wb, wb, w6]⟩,
⟨94, .struct [(0, 3), (1, 9)], 2, 24, [w6, ws]⟩,
⟨96, .func, 1, 8, [.nilFunc]⟩,
⟨98, .struct [(0, 41), (1, 44)], 2, 16, [.nilFunc, w6]⟩,
⟨102, .slice 98, 1, 24, [wn]⟩,
⟨115, .slice 5, 1, 24, [wn]⟩,
⟨125, .struct [(0, 9)], 1, 16, [ws]⟩,
⟨127, .map 3 125, 1, 8, [.nilMap]⟩,
⟨135, .int .u64, 1, 8, [w8]⟩,
⟨137, .slice 139, 1, 24, [wn]⟩,
⟨139, .struct [(0, 67), (4, 137), (5, 3), (6, 3)], 7, 96, [w6, w8, ws, wn, wn, w6, w6]⟩,
⟨146, .ptr, 1, 8, [.nilPtr]⟩,
⟨148, .map 9 3, 1, 8, [.nilMap]⟩,
⟨149, .map 3 154, 1, 8, [.nilMap]⟩,
⟨150, .slice 3, 1, 24, [wn]⟩,
⟨152, .struct [(0, 148), (1, 149), (2, 150), (3, 3)], 4, 48, [.nilMap, .nilMap, wn, w6]⟩,
⟨154, .struct [(0, 3), (1, 9), (2, 4)], 3, 32, [w6, ws, wb]⟩,
⟨164, .struct [(0, 3), (1, 3), (2, 3), (3, 3), (4, 3), (5, 4), (6, 4), (7, 4), (8, 4), (9, 4), (10, 4), (11, 4), (12, 9), (13, 9), (14, 9), (15, 9), (16, 9)], 17, 128, [w6, w6, w6, w6, w6, wb, wb, wb, wb, wb, wb, wb, ws, ws, ws, ws, ws]⟩,
⟨167, .map 3 172, 1, 8, [.nilMap]⟩,
⟨170, .array 64 3, 64, 512, List.replicate 64 w6⟩,
⟨172, .struct [(0, 3), (1, 3), (2, 87), (3, 87)], 4, 24, [w6, w6, .int .u32 (0), .int .u32 (0)]⟩,
⟨174, .func, 1, 8, [.nilFunc]⟩,
⟨180, .func, 1, 8, [.nilFunc]⟩,
⟨181, .map 3 180, 1, 8, [.nilMap]⟩,
⟨185, .struct [(0, 3), (1, 3), (2, 3), (3, 4), (4, 4)], 5, 32, [w6, w6, w6, wb, wb]⟩,
⟨189, .slice 9, 1, 24, [wn]⟩,
⟨192, .map 9 146, 1, 8, [.nilMap]⟩,
⟨194, .struct [(0, 192)], 1, 8, [.nilMap]⟩,
⟨196, .struct [(0, 80), (1, 9)], 2, 24, [.nilPtr, ws]⟩,
⟨198, .struct [], 0, 0, []⟩,
⟨200, .struct [(0, 196)], 2, 24, [.nilPtr, ws]⟩,
⟨201, .struct [(0, 196)], 2, 24, [.nilPtr, ws]⟩,
⟨205, .array 256 4, 256, 256, List.replicate 256 wb⟩,
⟨210, .func, 1, 8, [.nilFunc]⟩,
⟨215, .func, 1, 8, [.nilFunc]⟩,
⟨217, .func, 1, 8, [.nilFunc]⟩,
⟨223, .slice 185, 1, 24, [wn]⟩,
⟨227, .func, 1, 8, [.nilFunc]⟩,
⟨233, .func, 1, 8, [.nilFunc]⟩,
⟨234, .func, 1, 8, [.nilFunc]⟩,
⟨236, .struct [(0, 233), (1, 234)], 2, 16, [.nilFunc, .nilFunc]⟩,
⟨238, .map 3 236, 1, 8, [.nilMap]⟩,
⟨241, .struct [(0, 3), (1, 29)], 26, 320, [w6, w6, wb, wb, w6, w6, ws, ws, wb, w6, ws, wb, ws, wb, ws, wb, ws, ws, w6, wb, wn, wb, w6, wn, wn, wn]⟩,
⟨250, .array 256 5, 256, 256, List.replicate 256 w1⟩,
⟨252, .struct [(0, 5), (1, 5)], 2, 2, [w1, w1]⟩,
⟨253, .array 16 252, 32, 32, List.replicate 32 w1⟩,
⟨255, .func, 1, 8, [.nilFunc]⟩,
⟨262, .struct [(0, 3), (1, 3), (2, 3)], 3, 24, [w6, w6, w6]⟩,
⟨264, .struct [(0, 3), (1, 262), (4, 9)], 5, 48, [w6, w6, w6, w6, ws]⟩,
⟨266, .ptr, 1, 8, [.nilPtr]⟩,
⟨268, .struct [(0, 266), (1, 3), (2, 33), (18, 115), (19, 4)], 20, 176, [.nilPtr, w6, w6, wb, w6, wb, wb, wb, w6, w6, w6, w6, wb, w6, w6, w6, ws, ws, wn, wb]⟩,
⟨277, .ptr, 1, 8, [.nilPtr]⟩,
⟨278, .slice 1, 1, 24, [wn]⟩,
⟨283, .int .i64, 1, 8, [w6]⟩,
⟨296, .struct [(0, 266), (1, 3)], 2, 16, [.nilPtr, w6]⟩,
⟨299, .func, 1, 8, [.nilFunc]⟩,
⟨302, .ptr, 1, 8, [.nilPtr]⟩,
⟨322, .int .u64, 1, 8, [w8]⟩,
⟨326, .ptr, 1, 8, [.nilPtr]⟩,
⟨330, .struct [(0, 4), (1, 3)], 2, 16, [wb, w6]⟩,
⟨331, .slice 330, 1, 24, [wn]⟩,
⟨333, .struct [(0, 9), (1, 3), (2, 44)], 3, 32, [ws, w6, w6]⟩,
⟨341, .ptr, 1, 8, [.nilPtr]⟩,
⟨342, .struct [], 0, 0, []⟩,
⟨343, .map 3 96, 1, 8, [.nilMap]⟩,
⟨347, .slice 299, 1, 24, [wn]⟩,
⟨350, .ptr, 1, 8, [.nilPtr]⟩,
⟨357, .ptr, 1, 8, [.nilPtr]⟩,
⟨359, .struct [(0, 357), (1, 115)], 2, 32, [.nilPtr, wn]⟩,
⟨366, .array 4 65, 4, 32, [w8, w8, w8, w8]⟩,
⟨370, .ptr, 1, 8, [.nilPtr]⟩,
⟨375, .struct [(0, 3), (1, 3), (2, 4), (3, 4)], 4, 24, [w6, w6, wb, wb]⟩,
⟨376, .map 3 380, 1, 8, [.nilMap]⟩,
⟨379, .struct [(0, 266), (1, 89)], 5, 56, [.nilPtr, w6, .int .u32 (0), ws, ws]⟩,
⟨380, .func, 1, 8, [.nilFunc]⟩,
⟨381, .ptr, 1, 8, [.nilPtr]⟩,
⟨384, .ptr, 1, 8, [.nilPtr]⟩,
⟨392, .other, 1, 8, [.nilPtr]⟩]
abbrev gX := Z3y tyT [(245, 1), (402, 2)] [] []
def c3 : CFunc := Qc (show gX f3 [] = _ from rfl)
def c4 : CFunc := Qc (show gX f4 [] = _ from rfl)
def c5 : CFunc := Qc (show gX f5 [] = _ from rfl)
def c6 : CFunc := Qc (show gX f6 [] = _ from rfl)
def c7 : CFunc := Qc (show gX f7 [] = _ from rfl)
def c8 : CFunc := Qc (show gX f8 [] = _ from rfl)
def c9 : CFunc := Qc (show gX f9 [] = _ from rfl)
def c10 : CFunc := Qc (show gX f10 [] = _ from rfl)
def c11 : CFunc := Qc (show gX f11 [] = _ from rfl)
def c12 : CFunc := Qc (show gX f12 [] = _ from rfl)
def c13 : CFunc := Qc (show gX f13 [] = _ from rfl)
def c14 : CFunc := Qc (show gX f14 [] = _ from rfl)
def c15 : CFunc := Qc (show gX f15 [] = _ from rfl)
def c16 : CFunc := Qc (show gX f16 [] = _ from rfl)
def c17 : CFunc := Qc (show gX f17 [] = _ from rfl)
def c18 : CFunc := Qc (show gX f18 [] = _ from rfl)
def c19 : CFunc := Qc (show gX f19 [] = _ from rfl)
def c20 : CFunc := Qc (show gX f20 [] = _ from rfl)
def c21 : CFunc := Qc (show gX f21 [false, false, true] = _ from rfl)
def c22 : CFunc := Qc (show gX f22 [] = _ from rfl)
def c23 : CFunc := Qc (show gX f23 [] = _ from rfl)
def c24 : CFunc := Qc (show gX f24 [] = _ from rfl)
def c25 : CFunc := Qc (show gX f25 [] = _ from rfl)
def c26 : CFunc := Qc (show gX f26 [] = _ from rfl)
def c27 : CFunc := Qc (show gX f27 [] = _ from rfl)
def c28 : CFunc := Qc (show gX f28 [] = _ from rfl)
def c29 : CFunc := Qc (show gX f29 [] = _ from rfl)
def c30 : CFunc := Qc (show gX f30 [] = _ from rfl)
def c31 : CFunc := Qc (show gX f31 [] = _ from rfl)
def c32 : CFunc := Qc (show gX f32 [] = _ from rfl)
def c33 : CFunc := Qc (show gX f33 [] = _ from rfl)
def c34 : CFunc := Qc (show gX f34 [] = _ from rfl)
def c35 : CFunc := Qc (show gX f35 [false, false, true, true, true, true] = _ from rfl)
def c36 : CFunc := Qc (show gX f36 [] = _ from rfl)
def c37 : CFunc := Qc (show gX f37 [] = _ from rfl)
def c38 : CFunc := Qc (show gX f38 [] = _ from rfl)
def c39 : CFunc := Qc (show gX f39 [] = _ from rfl)
def c40 : CFunc := Qc (show gX f40 [] = _ from rfl)
def c41 : CFunc := Qc (show gX f41 [] = _ from rfl)
def c42 : CFunc := Qc (show gX f42 [] = _ from rfl)
def c43 : CFunc := Qc (show gX f43 [] = _ from rfl)
def c44 : CFunc := Qc (show gX f44 [] = _ from rfl)
def c45 : CFunc := Qc (show gX f45 [] = _ from rfl)
def c46 : CFunc := Qc (show gX f46 [] = _ from rfl)
def c47 : CFunc := Qc (show gX f47 [] = _ from rfl)
def c48 : CFunc := Qc (show gX f48 [] = _ from rfl)
def c49 : CFunc := Qc (show gX f49 [] = _ from rfl)
def c50 : CFunc := Qc (show gX f50 [] = _ from rfl)
def c51 : CFunc := Qc (show gX f51 [] = _ from rfl)
def c52 : CFunc := Qc (show gX f52 [] = _ from rfl)
def c53 : CFunc := Qc (show gX f53 [] = _ from rfl)
def c54 : CFunc := Qc (show gX f54 [] = _ from rfl)
def c55 : CFunc := Qc (show gX f55 [] = _ from rfl)
def c56 : CFunc := Qc (show gX f56 [] = _ from rfl)
def c57 : CFunc := Qc (show gX f57 [] = _ from rfl)
def c58 : CFunc := Qc (show gX f58 [] = _ from rfl)
def c59 : CFunc := Qc (show gX f59 [] = _ from rfl)
def c60 : CFunc := Qc (show gX f60 [] = _ from rfl)
def c61 : CFunc := Qc (show gX f61 [] = _ from rfl)
def c62 : CFunc := Qc (show gX f62 [] = _ from rfl)
def c63 : CFunc := Qc (show gX f63 [] = _ from rfl)
def c64 : CFunc := Qc (show gX f64 [] = _ from rfl)
def c65 : CFunc := Qc (show gX f65 [] = _ from rfl)
def c66 : CFunc := Qc (show gX f66 [] = _ from rfl)
def c67 : CFunc := Qc (show gX f67 [] = _ from rfl)
def c68 : CFunc := Qc (show gX f68 [] = _ from rfl)
def c69 : CFunc := Qc (show gX f69 [] = _ from rfl)
def c70 : CFunc := Qc (show gX f70 [] = _ from rfl)
def c71 : CFunc := Qc (show gX f71 [] = _ from rfl)
def c72 : CFunc := Qc (show gX f72 [false, false, true, true, true] = _ from rfl)
def c73 : CFunc := Qc (show gX f73 [] = _ from rfl)
def c74 : CFunc := Qc (show gX f74 [] = _ from rfl)
def c75 : CFunc := Qc (show gX f75 [] = _ from rfl)
def c76 : CFunc := Qc (show gX f76 [] = _ from rfl)
def c77 : CFunc := Qc (show gX f77 [] = _ from rfl)
def c78 : CFunc := Qc (show gX f78 [] = _ from rfl)
def c79 : CFunc := Qc (show gX f79 [] = _ from rfl)
def c80 : CFunc := Qc (show gX f80 [] = _ from rfl)
def c81 : CFunc := Qc (show gX f81 [] = _ from rfl)
def c82 : CFunc := Qc (show Z3y tyT [(245, 1), (402, 2)] [(42, [(198, 427), (200, 429), (201, 431)])] [] f82 [] = _ from rfl)
def c83 : CFunc := Qc (show gX f83 [] = _ from rfl)
def c84 : CFunc := Qc (show gX f84 [] = _ from rfl)
def c85 : CFunc := Qc (show gX f85 [] = _ from rfl)
def c86 : CFunc := Qc (show gX f86 [] = _ from rfl)
def c87 : CFunc := Qc (show gX f87 [] = _ from rfl)
def c88 : CFunc := Qc (show gX f88 [] = _ from rfl)
def c89 : CFunc := Qc (show gX f89 [] = _ from rfl)
def c90 : CFunc := Qc (show gX f90 [] = _ from rfl)
def c91 : CFunc := Qc (show gX f91 [] = _ from rfl)
def c92 : CFunc := Qc (show gX f92 [] = _ from rfl)
def c93 : CFunc := Qc (show gX f93 [] = _ from rfl)
def c94 : CFunc := Qc (show gX f94 [] = _ from rfl)
def c95 : CFunc := Qc (show gX f95 [] = _ from rfl)
def c96 : CFunc := Qc (show gX f96 [] = _ from rfl)
def c97 : CFunc := Qc (show gX f97 [] = _ from rfl)
def c98 : CFunc := Qc (show gX f98 [] = _ from rfl)
def c99 : CFunc := Qc (show gX f99 [] = _ from rfl)
def Zdl : CFunc := Qc (show gX f100 [] = _ from rfl)
def Z82 : CFunc := Qc (show gX f101 [] = _ from rfl)
def Z7r : CFunc := Qc (show gX f102 [] = _ from rfl)
def Z8a : CFunc := Qc (show gX f103 [] = _ from rfl)
def Zd3 : CFunc := Qc (show gX f104 [] = _ from rfl)
def Z62 : CFunc := Qc (show gX f105 [] = _ from rfl)
def Zah : CFunc := Qc (show gX f106 [] = _ from rfl)
def Zek : CFunc := Qc (show gX f107 [] = _ from rfl)
def Zag : CFunc := Qc (show gX f108 [] = _ from rfl)
def Zc6 : CFunc := Qc (show gX f109 [] = _ from rfl)
def Z8l : CFunc := Qc (show gX f110 [] = _ from rfl)
def Z6j : CFunc := Qc (show gX f111 [] = _ from rfl)
def Zcn : CFunc := Qc (show gX f112 [] = _ from rfl)
def Zbw : CFunc := Qc (show gX f113 [] = _ from rfl)
def Zbv : CFunc := Qc (show gX f114 [] = _ from rfl)
def Z9w : CFunc := Qc (show gX f115 [] = _ from rfl)
def Z7g : CFunc := Qc (show gX f116 [] = _ from rfl)
def Zg5 : CFunc := Qc (show gX f117 [] = _ from rfl)
def Zbo : CFunc := Qc (show gX f118 [] = _ from rfl)
def Z8h : CFunc := Qc (show gX f119 [] = _ from rfl)
def Zbf : CFunc := Qc (show gX f120 [] = _ from rfl)
def Z68 : CFunc := Qc (show gX f121 [] = _ from rfl)
def Z83 : CFunc := Qc (show gX f122 [] = _ from rfl)
def Z8g : CFunc := Qc (show gX f123 [] = _ from rfl)
def Zg6 : CFunc := Qc (show gX f124 [] = _ from rfl)
def Z9b : CFunc := Qc (show gX f125 [] = _ from rfl)
def Zgi : CFunc := Qc (show gX f126 [] = _ from rfl)
def Zbk : CFunc := Qc (show gX f127 [] = _ from rfl)
def Zfe : CFunc := Qc (show gX f128 [] = _ from rfl)
def Zde : CFunc := Qc (show gX f129 [] = _ from rfl)
def Za7 : CFunc := Qc (show gX f130 [] = _ from rfl)
def Z8q : CFunc := Qc (show gX f131 [] = _ from rfl)
def Z81 : CFunc := Qc (show gX f132 [] = _ from rfl)
def Z5y : CFunc := Qc (show gX f133 [] = _ from rfl)
def Zee : CFunc := Qc (show gX f134 [] = _ from rfl)
def Zaq : CFunc := Qc (show gX f135 [] = _ from rfl)
def Zgl : CFunc := Qc (show gX f136 [] = _ from rfl)
def Z6x : CFunc := Qc (show gX f137 [] = _ from rfl)
def Zbu : CFunc := Qc (show gX f138 [] = _ from rfl)
def Ze1 : CFunc := Qc (show gX f139 [] = _ from rfl)
def Zar : CFunc := Qc (show gX f140 [] = _ from rfl)
def Zbh : CFunc := Qc (show gX f141 [] = _ from rfl)
def Zdx : CFunc := Qc (show gX f142 [] = _ from rfl)
def Z7f : CFunc := Qc (show gX f143 [] = _ from rfl)
def Zc4 : CFunc := Qc (show gX f144 [] = _ from rfl)
def Zd9 : CFunc := Qc (show gX f145 [] = _ from rfl)
def Zef : CFunc := Qc (show gX f146 [] = _ from rfl)
def Zfg : CFunc := Qc (show gX f147 [] = _ from rfl)
def Zgd : CFunc := Qc (show gX f148 [] = _ from rfl)
def Zbi : CFunc := Qc (show gX f149 [false, true, true, false, false, true, true] = _ from rfl)
def Zga : CFunc := Qc (show gX f150 [] = _ from rfl)
def Zdk : CFunc := Qc (show gX f151 [false, true] = _ from rfl)
def Z9r : CFunc := Qc (show gX f152 [] = _ from rfl)
def Zas : CFunc := Qc (show gX f153 [] = _ from rfl)
def Z5k : CFunc := Qc (show gX f154 [] = _ from rfl)
def Zbt : CFunc := Qc (show gX f155 [] = _ from rfl)
def Zc7 : CFunc := Qc (show gX f156 [] = _ from rfl)
def Zdp : CFunc := Qc (show gX f157 [] = _ from rfl)
def Z7d : CFunc := Qc (show gX f158 [] = _ from rfl)
def Zf2 : CFunc := Qc (show gX f159 [] = _ from rfl)
def Zc3 : CFunc := Qc (show gX f160 [] = _ from rfl)
def Za9 : CFunc := Qc (show gX f161 [] = _ from rfl)
def Z7e : CFunc := Qc (show gX f162 [] = _ from rfl)
def Z7c : CFunc := Qc (show gX f163 [] = _ from rfl)
def Z5l : CFunc := Qc (show gX f164 [] = _ from rfl)
def Zex : CFunc := Qc (show gX f165 [] = _ from rfl)
def Z5x : CFunc := Qc (show gX f166 [] = _ from rfl)
def Z78 : CFunc := Qc (show gX f167 [] = _ from rfl)
def Z95 : CFunc := Qc (show gX f168 [] = _ from rfl)
def Z89 : CFunc := Qc (show gX f169 [] = _ from rfl)
def Z7m : CFunc := Qc (show gX f170 [] = _ from rfl)
def Z9y : CFunc := Qc (show gX f171 [] = _ from rfl)
def Z6u : CFunc := Qc (show gX f172 [] = _ from rfl)
def Z5v : CFunc := Qc (show gX f173 [] = _ from rfl)
def Z7n : CFunc := Qc (show gX f174 [] = _ from rfl)
def Z8i : CFunc := Qc (show gX f175 [] = _ from rfl)
def Z9u : CFunc := Qc (show gX f176 [] = _ from rfl)
def Z9h : CFunc := Qc (show gX f177 [] = _ from rfl)
def Z8f : CFunc := Qc (show gX f178 [] = _ from rfl)
def Z8s : CFunc := Qc (show gX f179 [] = _ from rfl)
def Zcu : CFunc := Qc (show gX f180 [] = _ from rfl)
def Zcr : CFunc := Qc (show gX f181 [] = _ from rfl)
def Z9x : CFunc := Qc (show gX f182 [] = _ from rfl)
def Z5z : CFunc := Qc (show gX f183 [] = _ from rfl)
def Z8y : CFunc := Qc (show gX f184 [false, false, false, false, false, true, false, true, true, true, false, true, true, true] = _ from rfl)
def Zgs : CFunc := Qc (show gX f185 [] = _ from rfl)
def Zdw : CFunc := Qc (show gX f186 [] = _ from rfl)
def Zba : CFunc := Qc (show gX f187 [] = _ from rfl)
def Zfs : CFunc := Qc (show gX f188 [] = _ from rfl)
def Ze5 : CFunc := Qc (show gX f189 [] = _ from rfl)
def Z9g : CFunc := Qc (show gX f190 [] = _ from rfl)
def Zac : CFunc := Qc (show gX f191 [] = _ from rfl)
def Zev : CFunc := Qc (show gX f192 [] = _ from rfl)
def Zb2 : CFunc := Qc (show gX f193 [] = _ from rfl)
def Zc8 : CFunc := Qc (show gX f194 [] = _ from rfl)
def Z9c : CFunc := Qc (show gX f196 [] = _ from rfl)
def Zfk : CFunc := Qc (show gX f197 [] = _ from rfl)
def Zcf : CFunc := Qc (show gX f198 [] = _ from rfl)
def Z8j : CFunc := Qc (show gX f199 [] = _ from rfl)
def Zdr : CFunc := Qc (show gX f200 [] = _ from rfl)
def Zf6 : CFunc := Qc (show gX f201 [] = _ from rfl)
def Zd7 : CFunc := Qc (show gX f202 [] = _ from rfl)
def Z8r : CFunc := Qc (show gX f203 [] = _ from rfl)
def Zbb : CFunc := Qc (show gX f204 [] = _ from rfl)
def Z9i : CFunc := Qc (show gX f205 [] = _ from rfl)
def Z7z : CFunc := Qc (show gX f206 [] = _ from rfl)
def Z9j : CFunc := Qc (show gX f207 [] = _ from rfl)
def Z79 : CFunc := Qc (show gX f208 [] = _ from rfl)
def Z76 : CFunc := Qc (show gX f209 [] = _ from rfl)
def Zcb : CFunc := Qc (show gX f210 [] = _ from rfl)
def Z7q : CFunc := Qc (show gX f211 [] = _ from rfl)
def Zax : CFunc := Qc (show gX f212 [] = _ from rfl)
def Zfi : CFunc := Qc (show gX f213 [] = _ from rfl)
def Zcy : CFunc := Qc (show gX f214 [] = _ from rfl)
def Zeh : CFunc := Qc (show gX f215 [] = _ from rfl)
def Zft : CFunc := Qc (show gX f216 [] = _ from rfl)
def Zgh : CFunc := Qc (show gX f217 [] = _ from rfl)
def Z9l : CFunc := Qc (show gX f218 [] = _ from rfl)
def Zdu : CFunc := Qc (show gX f219 [] = _ from rfl)
def Z5p : CFunc := Qc (show gX f220 [] = _ from rfl)
def Z9f : CFunc := Qc (show gX f221 [] = _ from rfl)
def Zda : CFunc := Qc (show gX f222 [] = _ from rfl)
def Zch : CFunc := Qc (show gX f223 [] = _ from rfl)
def Zad : CFunc := Qc (show gX f224 [false, false, false, false, false, true, true, false, false, true, false, true, false, true, false, true, false, true, false, true] = _ from rfl)
def Zes : CFunc := Qc (show gX f225 [] = _ from rfl)
def Z77 : CFunc := Qc (show gX f226 [] = _ from rfl)
def Zb6 : CFunc := Qc (show gX f227 [] = _ from rfl)
def Z7j : CFunc := Qc (show gX f228 [] = _ from rfl)
def Zc5 : CFunc := Qc (show gX f229 [] = _ from rfl)
def Zdy : CFunc := Qc (show gX f230 [] = _ from rfl)
def Zea : CFunc := Qc (show gX f231 [] = _ from rfl)
def Zb1 : CFunc := Qc (show gX f232 [] = _ from rfl)
def Zai : CFunc := Qc (show gX f233 [] = _ from rfl)
def Zg7 : CFunc := Qc (show gX f234 [] = _ from rfl)
def Zez : CFunc := Qc (show gX f235 [] = _ from rfl)
def Z6r : CFunc := Qc (show gX f236 [] = _ from rfl)
def Zb9 : CFunc := Qc (show gX f237 [] = _ from rfl)
def Zaf : CFunc := Qc (show gX f238 [] = _ from rfl)
def Z6f : CFunc := Qc (show gX f239 [false, false, false, false, false, false, true] = _ from rfl)
def Zct : CFunc := Qc (show gX f240 [] = _ from rfl)
def Zf7 : CFunc := Qc (show gX f241 [] = _ from rfl)
def Zeb : CFunc := Qc (show gX f242 [] = _ from rfl)
def Z6e : CFunc := Qc (show gX f243 [] = _ from rfl)
def Z91 : CFunc := Qc (show gX f244 [] = _ from rfl)
def Z7p : CFunc := Qc (show gX f246 [] = _ from rfl)
def Zat : CFunc := Qc (show gX f247 [] = _ from rfl)
def Zec : CFunc := Qc (show gX f248 [] = _ from rfl)
def Z7k : CFunc := Qc (show gX f249 [] = _ from rfl)
def Zfr : CFunc := Qc (show gX f250 [] = _ from rfl)
def Za5 : CFunc := Qc (show gX f251 [] = _ from rfl)
def Zaw : CFunc := Qc (show gX f252 [] = _ from rfl)
def Zbs : CFunc := Qc (show gX f253 [] = _ from rfl)
def Z6z : CFunc := Qc (show gX f254 [] = _ from rfl)
def Zdi : CFunc := Qc (show gX f255 [] = _ from rfl)
def Za8 : CFunc := Qc (show gX f256 [] = _ from rfl)
def Zff : CFunc := Qc (show gX f257 [] = _ from rfl)
def Zd1 : CFunc := Qc (show gX f258 [] = _ from rfl)
def Z6n : CFunc := Qc (show gX f259 [] = _ from rfl)
def Z84 : CFunc := Qc (show gX f260 [] = _ from rfl)
def Z8w : CFunc := Qc (show gX f261 [] = _ from rfl)
def Z7o : CFunc := Qc (show gX f262 [] = _ from rfl)
def Ze8 : CFunc := Qc (show gX f263 [] = _ from rfl)
def Zfm : CFunc := Qc (show gX f264 [] = _ from rfl)
def Zco : CFunc := Qc (show gX f265 [] = _ from rfl)
def Zgw : CFunc := Qc (show gX f266 [] = _ from rfl)
def Zd4 : CFunc := Qc (show gX f267 [] = _ from rfl)
def Zdq : CFunc := Qc (show gX f268 [] = _ from rfl)
def Zfw : CFunc := Qc (show gX f269 [] = _ from rfl)
def Zfu : CFunc := Qc (show gX f270 [] = _ from rfl)
def Z5o : CFunc := Qc (show gX f271 [] = _ from rfl)
def Zd0 : CFunc := Qc (show gX f272 [] = _ from rfl)
def Z5m : CFunc := Qc (show gX f273 [] = _ from rfl)
def Z60 : CFunc := Qc (show gX f274 [] = _ from rfl)
def Z8m : CFunc := Qc (show gX f275 [] = _ from rfl)
def Z98 : CFunc := Qc (show gX f276 [] = _ from rfl)
def Z75 : CFunc := Qc (show gX f277 [] = _ from rfl)
def Zdo : CFunc := Qc (show gX f278 [] = _ from rfl)
def Zf5 : CFunc := Qc (show gX f279 [] = _ from rfl)
def Z6v : CFunc := Qc (show gX f280 [] = _ from rfl)
def Zaz : CFunc := Qc (show gX f281 [] = _ from rfl)
def Zdn : CFunc := Qc (show gX f282 [] = _ from rfl)
def Zbm : CFunc := Qc (show gX f283 [] = _ from rfl)
def Zdt : CFunc := Qc (show gX f284 [] = _ from rfl)
def Z61 : CFunc := Qc (show gX f285 [] = _ from rfl)
def Zc9 : CFunc := Qc (show gX f286 [] = _ from rfl)
def Z9z : CFunc := Qc (show gX f287 [] = _ from rfl)
def Zeq : CFunc := Qc (show gX f288 [] = _ from rfl)
def Z8x : CFunc := Qc (show gX f289 [] = _ from rfl)
def Z5s : CFunc := Qc (show gX f290 [] = _ from rfl)
def Zdc : CFunc := Qc (show gX f291 [] = _ from rfl)
def Zd2 : CFunc := Qc (show gX f292 [] = _ from rfl)
def Zf3 : CFunc := Qc (show gX f293 [] = _ from rfl)
def Z7w : CFunc := Qc (show gX f294 [] = _ from rfl)
def Zc0 : CFunc := Qc (show gX f295 [] = _ from rfl)
def Z6k : CFunc := Qc (show gX f296 [] = _ from rfl)
def Z71 : CFunc := Qc (show gX f297 [] = _ from rfl)
def Z6l : CFunc := Qc (show gX f298 [] = _ from rfl)
def Zds : CFunc := Qc (show gX f299 [] = _ from rfl)
def Zeg : CFunc := Qc (show gX f300 [] = _ from rfl)
def Zet : CFunc := Qc (show gX f301 [] = _ from rfl)
def Z7s : CFunc := Qc (show gX f302 [] = _ from rfl)
def Zgj : CFunc := Qc (show gX f303 [] = _ from rfl)
def Z7x : CFunc := Qc (show gX f304 [] = _ from rfl)
def Zcs : CFunc := Qc (show gX f305 [] = _ from rfl)
def Z7i : CFunc := Qc (show gX f306 [] = _ from rfl)
def Z9d : CFunc := Qc (show gX f307 [] = _ from rfl)
def Zdj : CFunc := Qc (show gX f308 [] = _ from rfl)
def Z67 : CFunc := Qc (show gX f309 [] = _ from rfl)
def Z97 : CFunc := Qc (show gX f310 [] = _ from rfl)
def Z8d : CFunc := Qc (show gX f311 [] = _ from rfl)
def Ze6 : CFunc := Qc (show gX f312 [] = _ from rfl)
def Zbe : CFunc := Qc (show gX f313 [] = _ from rfl)
def Z5w : CFunc := Qc (show gX f314 [] = _ from rfl)
def Zew : CFunc := Qc (show gX f315 [] = _ from rfl)
def Zd5 : CFunc := Qc (show gX f316 [] = _ from rfl)
def Zg8 : CFunc := Qc (show gX f317 [] = _ from rfl)
def Zam : CFunc := Qc (show gX f318 [] = _ from rfl)
def Z8u : CFunc := Qc (show gX f319 [] = _ from rfl)
def Z70 : CFunc := Qc (show gX f320 [] = _ from rfl)
def Zep : CFunc := Qc (show gX f321 [] = _ from rfl)
def Zce : CFunc := Qc (show gX f322 [] = _ from rfl)
def Z6p : CFunc := Qc (show gX f323 [] = _ from rfl)
def Zbx : CFunc := Qc (show gX f324 [] = _ from rfl)
def Z96 : CFunc := Qc (show gX f325 [] = _ from rfl)
def Z86 : CFunc := Qc (show gX f326 [] = _ from rfl)
def Zcp : CFunc := Qc (show gX f327 [] = _ from rfl)
def Zdd : CFunc := Qc (show gX f328 [] = _ from rfl)
def Zbd : CFunc := Qc (show gX f329 [] = _ from rfl)
def Zer : CFunc := Qc (show gX f330 [] = _ from rfl)
def Zej : CFunc := Qc (show gX f331 [] = _ from rfl)
def Zal : CFunc := Qc (show gX f332 [] = _ from rfl)
def Zf8 : CFunc := Qc (show gX f333 [] = _ from rfl)
def Z65 : CFunc := Qc (show gX f334 [] = _ from rfl)
def Z5r : CFunc := Qc (show gX f335 [] = _ from rfl)
def Zeu : CFunc := Qc (show gX f336 [] = _ from rfl)
def Z8p : CFunc := Qc (show gX f337 [] = _ from rfl)
def Zgu : CFunc := Qc (show gX f338 [] = _ from rfl)
def Zg1 : CFunc := Qc (show gX f339 [] = _ from rfl)
def Zd6 : CFunc := Qc (show gX f340 [] = _ from rfl)
def Zaa : CFunc := Qc (show gX f341 [] = _ from rfl)
def Zcw : CFunc := Qc (show gX f342 [] = _ from rfl)
def Z80 : CFunc := Qc (show gX f343 [] = _ from rfl)
def Zfp : CFunc := Qc (show gX f344 [] = _ from rfl)
def Zbj : CFunc := Qc (show gX f345 [] = _ from rfl)
def Z73 : CFunc := Qc (show gX f346 [] = _ from rfl)
def Zfc : CFunc := Qc (show gX f347 [] = _ from rfl)
def Z9q : CFunc := Qc (show gX f348 [] = _ from rfl)
def Z69 : CFunc := Qc (show gX f349 [] = _ from rfl)
def Z8o : CFunc := Qc (show gX f350 [] = _ from rfl)
def Zao : CFunc := Qc (show gX f351 [] = _ from rfl)
def Z94 : CFunc := Qc (show gX f352 [] = _ from rfl)
def Z99 : CFunc := Qc (show gX f353 [] = _ from rfl)
def Zbc : CFunc := Qc (show gX f354 [] = _ from rfl)
def Z64 : CFunc := Qc (show gX f355 [] = _ from rfl)
def Zb5 : CFunc := Qc (show gX f356 [] = _ from rfl)
def Z90 : CFunc := Qc (show gX f357 [] = _ from rfl)
def Z63 : CFunc := Qc (show gX f358 [] = _ from rfl)
def Zdb : CFunc := Qc (show gX f359 [] = _ from rfl)
def Za0 : CFunc := Qc (show gX f360 [] = _ from rfl)
def Zdm : CFunc := Qc (show gX f361 [] = _ from rfl)
def Zan : CFunc := Qc (show gX f362 [] = _ from rfl)
def Zf4 : CFunc := Qc (show gX f363 [] = _ from rfl)
def Zap : CFunc := Qc (show gX f364 [] = _ from rfl)
def Zae : CFunc := Qc (show gX f365 [] = _ from rfl)
def Z8k : CFunc := Qc (show gX f366 [] = _ from rfl)
def Z8e : CFunc := Qc (show gX f367 [] = _ from rfl)
def Zcm : CFunc := Qc (show gX f368 [] = _ from rfl)
def Zcz : CFunc := Qc (show gX f369 [] = _ from rfl)
def Zeo : CFunc := Qc (show gX f370 [] = _ from rfl)
def Zc2 : CFunc := Qc (show gX f371 [] = _ from rfl)
def Za4 : CFunc := Qc (show gX f372 [] = _ from rfl)
def Zfz : CFunc := Qc (show gX f373 [] = _ from rfl)
def Za3 : CFunc := Qc (show gX f374 [] = _ from rfl)
def Z6o : CFunc := Qc (show gX f375 [] = _ from rfl)
def Zbr : CFunc := Qc (show gX f376 [] = _ from rfl)
def Z6i : CFunc := Qc (show gX f377 [] = _ from rfl)
def Zdv : CFunc := Qc (show gX f378 [] = _ from rfl)
def Z8c : CFunc := Qc (show gX f379 [] = _ from rfl)
def Zed : CFunc := Qc (show gX f380 [] = _ from rfl)
def Zc1 : CFunc := Qc (show gX f381 [] = _ from rfl)
def Z6q : CFunc := Qc (show gX f382 [] = _ from rfl)
def Zcc : CFunc := Qc (show gX f383 [] = _ from rfl)
def Z9o : CFunc := Qc (show gX f384 [] = _ from rfl)
def Zcv : CFunc := Qc (show gX f385 [] = _ from rfl)
def Z92 : CFunc := Qc (show gX f386 [] = _ from rfl)
def Zgv : CFunc := Qc (show gX f387 [] = _ from rfl)
def Zcj : CFunc := Qc (show gX f388 [] = _ from rfl)
def Z6y : CFunc := Qc (show gX f389 [] = _ from rfl)
def Z6b : CFunc := Qc (show gX f390 [false, false, true] = _ from rfl)
def Z5n : CFunc := Qc (show gX f391 [] = _ from rfl)
def Zgp : CFunc := Qc (show gX f392 [] = _ from rfl)
def Zbl : CFunc := Qc (show gX f395 [] = _ from rfl)
def Z7h : CFunc := Qc (show gX f396 [] = _ from rfl)
def Zbp : CFunc := Qc (show gX f397 [] = _ from rfl)
def Zcg : CFunc := Qc (show gX f398 [] = _ from rfl)
def Z7l : CFunc := Qc (show gX f399 [] = _ from rfl)
def Zb8 : CFunc := Qc (show gX f400 [] = _ from rfl)
def Zab : CFunc := Qc (show gX f401 [] = _ from rfl)
def Zgq : CFunc := Qc (show gX f403 [] = _ from rfl)
def Z6d : CFunc := Qc (show gX f404 [] = _ from rfl)
def Zfn : CFunc := Qc (show gX f405 [] = _ from rfl)
def Ze2 : CFunc := Qc (show gX f406 [] = _ from rfl)
def Ze7 : CFunc := Qc (show gX f407 [] = _ from rfl)
def Qvf : List (Option CFunc) := [none, none, none, some c3, some c4, some c5, some c6, some c7, some c8, some c9, some c10, some c11, some c12, some c13, some c14, some c15, some c16, some c17, some c18, some c19, some c20, some c21, some c22, some c23, some c24, some c25, some c26, some c27, some c28, some c29, some c30, some c31, some c32, some c33, some c34, some c35, some c36, some c37, some c38, some c39, some c40, some c41, some c42, some c43, some c44, some c45, some c46, some c47, some c48, some c49, some c50, some c51, some c52, some c53, some c54, some c55, some c56, some c57, some c58, some c59, some c60, some c61, some c62, some c63, some c64, some c65, some c66, some c67, some c68, some c69, some c70, some c71, some c72, some c73, some c74, some c75, some c76, some c77, some c78, some c79, some c80, some c81, some c82, some c83, some c84, some c85, some c86, some c87, some c88, some c89, some c90, some c91, some c92, some c93, some c94, some c95, some c96, some c97, some c98, some c99, some Zdl, some Z82, some Z7r, some Z8a, some Zd3, some Z62, some Zah, some Zek, some Zag, some Zc6, some Z8l, some Z6j, some Zcn, some Zbw, some Zbv, some Z9w, some Z7g, some Zg5, some Zbo, some Z8h, some Zbf, some Z68, some Z83, some Z8g, some Zg6, some Z9b, some Zgi, some Zbk, some Zfe, some Zde, some Za7, some Z8q, some Z81, some Z5y, some Zee, some Zaq, some Zgl, some Z6x, some Zbu, some Ze1, some Zar, some Zbh, some Zdx, some Z7f, some Zc4, some Zd9, some Zef, some Zfg, some Zgd, some Zbi, some Zga, some Zdk, some Z9r, some Zas, some Z5k, some Zbt, some Zc7, some Zdp, some Z7d, some Zf2, some Zc3, some Za9, some Z7e, some Z7c, some Z5l, some Zex, some Z5x, some Z78, some Z95, some Z89, some Z7m, some Z9y, some Z6u, some Z5v, some Z7n, some Z8i, some Z9u, some Z9h, some Z8f, some Z8s, some Zcu, some Zcr, some Z9x, some Z5z, some Z8y, some Zgs, some Zdw, some Zba, some Zfs, some Ze5, some Z9g, some Zac, some Zev, some Zb2, some Zc8, none, some Z9c, some Zfk, some Zcf, some Z8j, some Zdr, some Zf6, some Zd7, some Z8r, some Zbb, some Z9i, some Z7z, some Z9j, some Z79, some Z76, some Zcb, some Z7q, some Zax, some Zfi, some Zcy, some Zeh, some Zft, some Zgh, some Z9l, some Zdu, some Z5p, some Z9f, some Zda, some Zch, some Zad, some Zes, some Z77, some Zb6, some Z7j, some Zc5, some Zdy, some Zea, some Zb1, some Zai, some Zg7, some Zez, some Z6r, some Zb9, some Zaf, some Z6f, some Zct, some Zf7, some Zeb, some Z6e, some Z91, none, some Z7p, some Zat, some Zec, some Z7k, some Zfr, some Za5, some Zaw, some Zbs, some Z6z, some Zdi, some Za8, some Zff, some Zd1, some Z6n, some Z84, some Z8w, some Z7o, some Ze8, some Zfm, some Zco, some Zgw, some Zd4, some Zdq, some Zfw, some Zfu, some Z5o, some Zd0, some Z5m, some Z60, some Z8m, some Z98, some Z75, some Zdo, some Zf5, some Z6v, some Zaz, some Zdn, some Zbm, some Zdt, some Z61, some Zc9, some Z9z, some Zeq, some Z8x, some Z5s, some Zdc, some Zd2, some Zf3, some Z7w, some Zc0, some Z6k, some Z71, some Z6l, some Zds, some Zeg, some Zet, some Z7s, some Zgj, some Z7x, some Zcs, some Z7i, some Z9d, some Zdj, some Z67, some Z97, some Z8d, some Ze6, some Zbe, some Z5w, some Zew, some Zd5, some Zg8, some Zam, some Z8u, some Z70, some Zep, some Zce, some Z6p, some Zbx, some Z96, some Z86, some Zcp, some Zdd, some Zbd, some Zer, some Zej, some Zal, some Zf8, some Z65, some Z5r, some Zeu, some Z8p, some Zgu, some Zg1, some Zd6, some Zaa, some Zcw, some Z80, some Zfp, some Zbj, some Z73, some Zfc, some Z9q, some Z69, some Z8o, some Zao, some Z94, some Z99, some Zbc, some Z64, some Zb5, some Z90, some Z63, some Zdb, some Za0, some Zdm, some Zan, some Zf4, some Zap, some Zae, some Z8k, some Z8e, some Zcm, some Zcz, some Zeo, some Zc2, some Za4, some Zfz, some Za3, some Z6o, some Zbr, some Z6i, some Zdv, some Z8c, some Zed, some Zc1, some Z6q, some Zcc, some Z9o, some Zcv, some Z92, some Zgv, some Zcj, some Z6y, some Z6b, some Z5n, some Zgp, none, none, some Zbl, some Z7h, some Zbp, some Zcg, some Z7l, some Zb8, some Zab, none, some Zgq, some Z6d, some Zfn, some Ze2, some Ze7]
end
end Go.Av
