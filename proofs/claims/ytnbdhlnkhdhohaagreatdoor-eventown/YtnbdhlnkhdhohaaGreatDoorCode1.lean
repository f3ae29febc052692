/- Part of the proof of EventOwn: for every input the law returns true; no condition. -/
import Derived.Test.YtnbdhlnkhdhohaaGreatDoorAvGen
import Derived.Test.YtnbdhlnkhdhohaaGreatDoorProg
namespace Go.Av
noncomputable section
open Go.Proofs
set_option maxRecDepth 100000
abbrev w6 : PV := .int .i64 0
abbrev wb : PV := .bool false
abbrev w1 : PV := .int .u8 0
abbrev w8 : PV := .int .u64 0
abbrev ws : PV := .str []
abbrev wn : PV := .nilSlice
def tyT : List TI := [⟨1, .func, 1, 8, [.nilFunc]⟩,
⟨2, .int .i64, 1, 8, [w6]⟩,
⟨3, .int .i64, 1, 8, [w6]⟩,
⟨4, .bool, 1, 1, [wb]⟩,
⟨5, .int .u8, 1, 1, [w1]⟩,
⟨9, .str, 1, 16, [ws]⟩,
⟨12, .int .u64, 1, 8, [w8]⟩,
⟨21, .int .i32, 1, 4, [.int .i32 (0)]⟩,
⟨22, .slice 50, 1, 24, [wn]⟩,
⟨23, .slice 52, 1, 24, [wn]⟩,
⟨25, .struct [(0, 9), (1, 9), (2, 3), (3, 4), (4, 22)], 5, 72, [ws, ws, w6, wb, wn]⟩,
⟨26, .slice 3, 1, 24, [wn]⟩,
⟨27, .slice 54, 1, 24, [wn]⟩,
⟨29, .struct [(0, 3), (1, 4), (2, 4), (3, 3), (4, 3), (5, 9), (6, 9), (7, 4), (8, 3), (9, 9), (10, 4), (11, 9), (12, 4), (13, 9), (14, 4), (15, 25), (20, 4), (21, 3), (22, 26), (23, 27), (24, 22)], 25, 312, [w6, wb, wb, w6, w6, ws, ws, wb, w6, ws, wb, ws, wb, ws, wb, ws, ws, w6, wb, wn, wb, w6, wn, wn, wn]⟩,
⟨31, .struct [(0, 4), (1, 3), (2, 4), (3, 4), (4, 4), (5, 3)], 6, 32, [wb, w6, wb, wb, wb, w6]⟩,
⟨33, .struct [(0, 3), (1, 31), (7, 3), (8, 3), (9, 3), (10, 4), (11, 3), (12, 3), (13, 3), (14, 9), (15, 9)], 16, 128, [w6, wb, w6, wb, wb, wb, w6, w6, w6, w6, wb, w6, w6, w6, ws, ws]⟩,
⟨34, .slice 57, 1, 24, [wn]⟩,
⟨36, .struct [(0, 3), (1, 3), (2, 9), (3, 34)], 4, 56, [w6, w6, ws, wn]⟩,
⟨38, .struct [(0, 3), (1, 3), (2, 9), (3, 9), (4, 3), (5, 4), (6, 4), (7, 3), (8, 22), (9, 3), (10, 23), (11, 3), (12, 29), (37, 33), (53, 36)], 57, 632, [w6, w6, ws, ws, w6, wb, wb, w6, wn, w6, wn, w6, w6, wb, wb, w6, w6, ws, ws, wb, w6, ws, wb, ws, wb, ws, wb, ws, ws, w6, wb, wn, wb, w6, wn, wn, wn, w6, wb, w6, wb, wb, wb, w6, w6, w6, w6, wb, w6, w6, w6, ws, ws, w6, w6, ws, wn]⟩,
⟨40, .struct [(0, 3), (1, 3)], 2, 16, [w6, w6]⟩,
⟨41, .func, 1, 8, [.nilFunc]⟩,
⟨45, .int .i64, 1, 8, [w6]⟩,
⟨48, .int .u32, 1, 4, [.int .u32 (0)]⟩,
⟨50, .struct [(0, 3), (1, 48), (2, 9), (3, 9)], 4, 48, [w6, .int .u32 (0), ws, ws]⟩,
⟨52, .struct [(0, 3), (1, 9)], 2, 24, [w6, ws]⟩,
⟨54, .struct [(0, 9), (1, 3), (2, 4), (3, 4), (4, 3)], 5, 40, [ws, w6, wb, wb, w6]⟩,
⟨55, .int .u64, 1, 8, [w8]⟩,
⟨57, .struct [(0, 3), (1, 55), (2, 9), (3, 34)], 4, 56, [w6, w8, ws, wn]⟩,
⟨73, .struct [(0, 9)], 1, 16, [ws]⟩,
⟨75, .map 3 73, 1, 8, [.nilMap]⟩,
⟨82, .struct [(0, 23), (1, 33)], 17, 152, [wn, w6, wb, w6, wb, wb, wb, w6, w6, w6, w6, wb, w6, w6, w6, ws, ws]⟩,
⟨87, .struct [(0, 3), (1, 3), (2, 3), (3, 3), (4, 3), (5, 4), (6, 4), (7, 4), (8, 4), (9, 4), (10, 4), (11, 4), (12, 9), (13, 9), (14, 9), (15, 9), (16, 9)], 17, 128, [w6, w6, w6, w6, w6, wb, wb, wb, wb, wb, wb, wb, ws, ws, ws, ws, ws]⟩,
⟨93, .func, 1, 8, [.nilFunc]⟩,
⟨95, .struct [(0, 41), (1, 45)], 2, 16, [.nilFunc, w6]⟩,
⟨99, .slice 95, 1, 24, [wn]⟩,
⟨107, .func, 1, 8, [.nilFunc]⟩,
⟨109, .func, 1, 8, [.nilFunc]⟩,
⟨111, .func, 1, 8, [.nilFunc]⟩,
⟨120, .func, 1, 8, [.nilFunc]⟩,
⟨127, .map 3 133, 1, 8, [.nilMap]⟩,
⟨130, .array 64 3, 64, 512, List.replicate 64 w6⟩,
⟨131, .slice 5, 1, 24, [wn]⟩,
⟨133, .struct [(0, 3), (1, 3), (2, 48), (3, 48)], 4, 24, [w6, w6, .int .u32 (0), .int .u32 (0)]⟩,
⟨137, .func, 1, 8, [.nilFunc]⟩,
⟨138, .func, 1, 8, [.nilFunc]⟩,
⟨140, .struct [(0, 137), (1, 138)], 2, 16, [.nilFunc, .nilFunc]⟩,
⟨142, .map 3 140, 1, 8, [.nilMap]⟩,
⟨145, .struct [(0, 3), (1, 29)], 26, 320, [w6, w6, wb, wb, w6, w6, ws, ws, wb, w6, ws, wb, ws, wb, ws, wb, ws, ws, w6, wb, wn, wb, w6, wn, wn, wn]⟩,
⟨147, .func, 1, 8, [.nilFunc]⟩,
⟨150, .int .u64, 1, 8, [w8]⟩,
⟨152, .slice 154, 1, 24, [wn]⟩,
⟨154, .struct [(0, 57), (4, 152), (5, 3), (6, 3)], 7, 96, [w6, w8, ws, wn, wn, w6, w6]⟩,
⟨158, .array 24 5, 24, 24, List.replicate 24 w1⟩,
⟨166, .array 256 4, 256, 256, List.replicate 256 wb⟩,
⟨177, .struct [(0, 3), (1, 3), (2, 3)], 3, 24, [w6, w6, w6]⟩,
⟨179, .struct [(0, 3), (1, 177), (4, 9)], 5, 48, [w6, w6, w6, w6, ws]⟩,
⟨187, .func, 1, 8, [.nilFunc]⟩,
⟨188, .map 3 187, 1, 8, [.nilMap]⟩,
⟨192, .struct [(0, 3), (1, 3), (2, 3), (3, 4), (4, 4)], 5, 32, [w6, w6, w6, wb, wb]⟩,
⟨196, .array 20 55, 20, 160, List.replicate 20 w8⟩,
⟨197, .array 65 5, 65, 65, List.replicate 65 w1⟩,
⟨206, .ptr, 1, 8, [.nilPtr]⟩,
⟨208, .struct [(0, 206), (1, 3), (2, 33), (18, 131), (19, 4)], 20, 176, [.nilPtr, w6, w6, wb, w6, wb, wb, wb, w6, w6, w6, w6, wb, w6, w6, w6, ws, ws, wn, wb]⟩,
⟨210, .slice 192, 1, 24, [wn]⟩,
⟨213, .func, 1, 8, [.nilFunc]⟩,
⟨220, .struct [(0, 206), (1, 3)], 2, 16, [.nilPtr, w6]⟩,
⟨223, .func, 1, 8, [.nilFunc]⟩,
⟨226, .ptr, 1, 8, [.nilPtr]⟩,
⟨244, .ptr, 1, 8, [.nilPtr]⟩,
⟨245, .slice 1, 1, 24, [wn]⟩,
⟨250, .array 256 5, 256, 256, List.replicate 256 w1⟩,
⟨252, .struct [(0, 5), (1, 5)], 2, 2, [w1, w1]⟩,
⟨253, .array 16 252, 32, 32, List.replicate 32 w1⟩,
⟨255, .func, 1, 8, [.nilFunc]⟩,
⟨258, .array 32 5, 32, 32, List.replicate 32 w1⟩,
⟨259, .array 64 5, 64, 64, List.replicate 64 w1⟩,
⟨261, .slice 9, 1, 24, [wn]⟩,
⟨263, .struct [(0, 4), (1, 3)], 2, 16, [wb, w6]⟩,
⟨264, .slice 263, 1, 24, [wn]⟩,
⟨266, .struct [(0, 9), (1, 3), (2, 45)], 3, 32, [ws, w6, w6]⟩,
⟨274, .ptr, 1, 8, [.nilPtr]⟩,
⟨276, .struct [], 0, 0, []⟩,
⟨277, .map 3 93, 1, 8, [.nilMap]⟩,
⟨281, .slice 223, 1, 24, [wn]⟩,
⟨288, .ptr, 1, 8, [.nilPtr]⟩,
⟨290, .struct [(0, 288), (1, 131)], 2, 32, [.nilPtr, wn]⟩,
⟨297, .array 4 55, 4, 32, [w8, w8, w8, w8]⟩,
⟨301, .ptr, 1, 8, [.nilPtr]⟩,
⟨306, .struct [(0, 3), (1, 3), (2, 4), (3, 4)], 4, 24, [w6, w6, wb, wb]⟩,
⟨307, .map 3 311, 1, 8, [.nilMap]⟩,
⟨310, .struct [(0, 206), (1, 50)], 5, 56, [.nilPtr, w6, .int .u32 (0), ws, ws]⟩,
⟨311, .func, 1, 8, [.nilFunc]⟩,
⟨312, .ptr, 1, 8, [.nilPtr]⟩,
⟨315, .ptr, 1, 8, [.nilPtr]⟩,
⟨317, .ptr, 1, 8, [.nilPtr]⟩,
⟨322, .int .i64, 1, 8, [w6]⟩,
⟨328, .ptr, 1, 8, [.nilPtr]⟩,
⟨336, .int .u64, 1, 8, [w8]⟩,
⟨341, .other, 1, 8, [.nilPtr]⟩]
abbrev gX := Z4g tyT [(234, 1), (356, 2)] [] []
def c3 : CFunc := Qh (show gX Tryz.f3 [] = _ from rfl)
def c4 : CFunc := Qh (show gX Tryz.f4 [] = _ from rfl)
def c5 : CFunc := Qh (show gX Tryz.f5 [] = _ from rfl)
def c6 : CFunc := Qh (show gX Tryz.f6 [] = _ from rfl)
def c7 : CFunc := Qh (show gX Tryz.f7 [] = _ from rfl)
def c8 : CFunc := Qh (show gX Tryz.f8 [] = _ from rfl)
def c9 : CFunc := Qh (show gX Tryz.f9 [] = _ from rfl)
def c10 : CFunc := Qh (show gX Tryz.f10 [] = _ from rfl)
def c11 : CFunc := Qh (show gX Tryz.f11 [] = _ from rfl)
def c12 : CFunc := Qh (show gX Tryz.f12 [] = _ from rfl)
def c13 : CFunc := Qh (show gX Tryz.f13 [] = _ from rfl)
def c14 : CFunc := Qh (show gX Tryz.f14 [] = _ from rfl)
def c15 : CFunc := Qh (show gX Tryz.f15 [] = _ from rfl)
def c16 : CFunc := Qh (show gX Tryz.f16 [] = _ from rfl)
def c17 : CFunc := Qh (show gX Tryz.f17 [] = _ from rfl)
def c18 : CFunc := Qh (show gX Tryz.f18 [] = _ from rfl)
def c19 : CFunc := Qh (show gX Tryz.f19 [] = _ from rfl)
def c20 : CFunc := Qh (show gX Tryz.f20 [] = _ from rfl)
def c21 : CFunc := Qh (show gX Tryz.f21 [] = _ from rfl)
def c22 : CFunc := Qh (show gX Tryz.f22 [] = _ from rfl)
def c23 : CFunc := Qh (show gX Tryz.f23 [false, false, true] = _ from rfl)
def c24 : CFunc := Qh (show gX Tryz.f24 [] = _ from rfl)
def c25 : CFunc := Qh (show gX Tryz.f25 [] = _ from rfl)
def c26 : CFunc := Qh (show gX Tryz.f26 [] = _ from rfl)
def c27 : CFunc := Qh (show gX Tryz.f27 [] = _ from rfl)
def c28 : CFunc := Qh (show gX Tryz.f28 [] = _ from rfl)
def c29 : CFunc := Qh (show gX Tryz.f29 [] = _ from rfl)
def c30 : CFunc := Qh (show gX Tryz.f30 [] = _ from rfl)
def c31 : CFunc := Qh (show gX Tryz.f31 [] = _ from rfl)
def c32 : CFunc := Qh (show gX Tryz.f32 [] = _ from rfl)
def c33 : CFunc := Qh (show gX Tryz.f33 [] = _ from rfl)
def c34 : CFunc := Qh (show gX Tryz.f34 [] = _ from rfl)
def c35 : CFunc := Qh (show gX Tryz.f35 [] = _ from rfl)
def c36 : CFunc := Qh (show gX Tryz.f36 [] = _ from rfl)
def c37 : CFunc := Qh (show gX Tryz.f37 [] = _ from rfl)
def c38 : CFunc := Qh (show gX Tryz.f38 [] = _ from rfl)
def c39 : CFunc := Qh (show gX Tryz.f39 [] = _ from rfl)
def c40 : CFunc := Qh (show gX Tryz.f40 [] = _ from rfl)
def c41 : CFunc := Qh (show gX Tryz.f41 [] = _ from rfl)
def c42 : CFunc := Qh (show gX Tryz.f42 [] = _ from rfl)
def c43 : CFunc := Qh (show gX Tryz.f43 [] = _ from rfl)
def c44 : CFunc := Qh (show gX Tryz.f44 [] = _ from rfl)
def c45 : CFunc := Qh (show gX Tryz.f45 [] = _ from rfl)
def c46 : CFunc := Qh (show gX Tryz.f46 [] = _ from rfl)
def c47 : CFunc := Qh (show gX Tryz.f47 [] = _ from rfl)
def c48 : CFunc := Qh (show gX Tryz.f48 [] = _ from rfl)
def c49 : CFunc := Qh (show gX Tryz.f49 [] = _ from rfl)
def c50 : CFunc := Qh (show gX Tryz.f50 [] = _ from rfl)
def c51 : CFunc := Qh (show gX Tryz.f51 [] = _ from rfl)
def c52 : CFunc := Qh (show gX Tryz.f52 [] = _ from rfl)
def c53 : CFunc := Qh (show gX Tryz.f53 [] = _ from rfl)
def c54 : CFunc := Qh (show gX Tryz.f54 [] = _ from rfl)
def c55 : CFunc := Qh (show gX Tryz.f55 [] = _ from rfl)
def c56 : CFunc := Qh (show gX Tryz.f56 [] = _ from rfl)
def c57 : CFunc := Qh (show gX Tryz.f57 [] = _ from rfl)
def c58 : CFunc := Qh (show gX Tryz.f58 [] = _ from rfl)
def c59 : CFunc := Qh (show gX Tryz.f59 [] = _ from rfl)
def c60 : CFunc := Qh (show gX Tryz.f60 [] = _ from rfl)
def c61 : CFunc := Qh (show gX Tryz.f61 [] = _ from rfl)
def c62 : CFunc := Qh (show gX Tryz.f62 [] = _ from rfl)
def c63 : CFunc := Qh (show gX Tryz.f63 [] = _ from rfl)
def c64 : CFunc := Qh (show gX Tryz.f64 [] = _ from rfl)
def c65 : CFunc := Qh (show gX Tryz.f65 [] = _ from rfl)
def c66 : CFunc := Qh (show gX Tryz.f66 [] = _ from rfl)
def c67 : CFunc := Qh (show gX Tryz.f67 [] = _ from rfl)
def c68 : CFunc := Qh (show gX Tryz.f68 [] = _ from rfl)
def c69 : CFunc := Qh (show gX Tryz.f69 [] = _ from rfl)
def c70 : CFunc := Qh (show gX Tryz.f70 [] = _ from rfl)
def c71 : CFunc := Qh (show gX Tryz.f71 [] = _ from rfl)
def c72 : CFunc := Qh (show gX Tryz.f72 [] = _ from rfl)
def c73 : CFunc := Qh (show gX Tryz.f73 [] = _ from rfl)
def c74 : CFunc := Qh (show gX Tryz.f74 [false, true, true, false, false, true, true] = _ from rfl)
def c75 : CFunc := Qh (show gX Tryz.f75 [] = _ from rfl)
def c76 : CFunc := Qh (show gX Tryz.f76 [false, false, true, true, true] = _ from rfl)
def c77 : CFunc := Qh (show gX Tryz.f77 [] = _ from rfl)
def c78 : CFunc := Qh (show gX Tryz.f78 [] = _ from rfl)
def c79 : CFunc := Qh (show gX Tryz.f79 [] = _ from rfl)
def c80 : CFunc := Qh (show gX Tryz.f80 [] = _ from rfl)
def c81 : CFunc := Qh (show gX Tryz.f81 [] = _ from rfl)
def c82 : CFunc := Qh (show gX Tryz.f82 [] = _ from rfl)
def c83 : CFunc := Qh (show gX Tryz.f83 [] = _ from rfl)
def c84 : CFunc := Qh (show gX Tryz.f84 [] = _ from rfl)
def c85 : CFunc := Qh (show gX Tryz.f85 [] = _ from rfl)
def c86 : CFunc := Qh (show gX Tryz.f86 [] = _ from rfl)
def c87 : CFunc := Qh (show gX Tryz.f87 [] = _ from rfl)
def c88 : CFunc := Qh (show gX Tryz.f88 [] = _ from rfl)
def c89 : CFunc := Qh (show gX Tryz.f89 [] = _ from rfl)
def c90 : CFunc := Qh (show gX Tryz.f90 [] = _ from rfl)
def c91 : CFunc := Qh (show gX Tryz.f91 [] = _ from rfl)
def c92 : CFunc := Qh (show gX Tryz.f92 [] = _ from rfl)
def c93 : CFunc := Qh (show gX Tryz.f93 [] = _ from rfl)
def c94 : CFunc := Qh (show gX Tryz.f94 [] = _ from rfl)
def c95 : CFunc := Qh (show gX Tryz.f95 [] = _ from rfl)
def c96 : CFunc := Qh (show gX Tryz.f96 [] = _ from rfl)
def c97 : CFunc := Qh (show gX Tryz.f97 [] = _ from rfl)
def c98 : CFunc := Qh (show gX Tryz.f98 [] = _ from rfl)
def c99 : CFunc := Qh (show gX Tryz.f99 [] = _ from rfl)
def Z98 : CFunc := Qh (show gX Tryz.f100 [] = _ from rfl)
def Zg3 : CFunc := Qh (show gX Tryz.f101 [] = _ from rfl)
def Z86 : CFunc := Qh (show gX Tryz.f102 [] = _ from rfl)
def Z9a : CFunc := Qh (show gX Tryz.f103 [] = _ from rfl)
def Zgs : CFunc := Qh (show gX Tryz.f104 [] = _ from rfl)
def Zea : CFunc := Qh (show gX Tryz.f105 [] = _ from rfl)
def Z8n : CFunc := Qh (show gX Tryz.f106 [] = _ from rfl)
def Zg7 : CFunc := Qh (show gX Tryz.f107 [] = _ from rfl)
def Z55 : CFunc := Qh (show gX Tryz.f108 [] = _ from rfl)
def Zdl : CFunc := Qh (show gX Tryz.f109 [] = _ from rfl)
def Zg1 : CFunc := Qh (show gX Tryz.f110 [] = _ from rfl)
def Z8h : CFunc := Qh (show gX Tryz.f111 [] = _ from rfl)
def Zdp : CFunc := Qh (show gX Tryz.f112 [false, true] = _ from rfl)
def Zds : CFunc := Qh (show gX Tryz.f113 [] = _ from rfl)
def Zbu : CFunc := Qh (show gX Tryz.f114 [] = _ from rfl)
def Zdy : CFunc := Qh (show gX Tryz.f115 [] = _ from rfl)
def Zat : CFunc := Qh (show gX Tryz.f116 [] = _ from rfl)
def Zc4 : CFunc := Qh (show gX Tryz.f117 [] = _ from rfl)
def Z57 : CFunc := Qh (show gX Tryz.f118 [] = _ from rfl)
def Zfm : CFunc := Qh (show gX Tryz.f119 [] = _ from rfl)
def Zff : CFunc := Qh (show gX Tryz.f120 [] = _ from rfl)
def Z7i : CFunc := Qh (show gX Tryz.f121 [] = _ from rfl)
def Zdd : CFunc := Qh (show gX Tryz.f122 [] = _ from rfl)
def Z7l : CFunc := Qh (show gX Tryz.f123 [] = _ from rfl)
def Zgq : CFunc := Qh (show gX Tryz.f124 [] = _ from rfl)
def Z8d : CFunc := Qh (show gX Tryz.f125 [] = _ from rfl)
def Zdu : CFunc := Qh (show gX Tryz.f126 [] = _ from rfl)
def Z5k : CFunc := Qh (show gX Tryz.f127 [] = _ from rfl)
def Z80 : CFunc := Qh (show gX Tryz.f128 [] = _ from rfl)
def Zck : CFunc := Qh (show gX Tryz.f129 [] = _ from rfl)
def Z6b : CFunc := Qh (show gX Tryz.f130 [] = _ from rfl)
def Z7d : CFunc := Qh (show gX Tryz.f131 [] = _ from rfl)
def Zac : CFunc := Qh (show gX Tryz.f132 [] = _ from rfl)
def Zaq : CFunc := Qh (show gX Tryz.f133 [] = _ from rfl)
def Z9q : CFunc := Qh (show gX Tryz.f134 [] = _ from rfl)
def Z7f : CFunc := Qh (show gX Tryz.f135 [] = _ from rfl)
def Za7 : CFunc := Qh (show gX Tryz.f136 [] = _ from rfl)
def Z5m : CFunc := Qh (show gX Tryz.f137 [] = _ from rfl)
def Z6e : CFunc := Qh (show gX Tryz.f138 [] = _ from rfl)
def Z81 : CFunc := Qh (show gX Tryz.f139 [] = _ from rfl)
def Z9g : CFunc := Qh (show gX Tryz.f140 [] = _ from rfl)
def Zex : CFunc := Qh (show gX Tryz.f141 [] = _ from rfl)
def Z6j : CFunc := Qh (show gX Tryz.f142 [] = _ from rfl)
def Zbv : CFunc := Qh (show gX Tryz.f143 [] = _ from rfl)
def Zcz : CFunc := Qh (show gX Tryz.f144 [] = _ from rfl)
def Zcu : CFunc := Qh (show gX Tryz.f145 [] = _ from rfl)
def Zf3 : CFunc := Qh (show gX Tryz.f146 [] = _ from rfl)
def Zey : CFunc := Qh (show gX Tryz.f147 [] = _ from rfl)
def Z5q : CFunc := Qh (show gX Tryz.f148 [] = _ from rfl)
def Z8w : CFunc := Qh (show gX Tryz.f149 [] = _ from rfl)
def Zav : CFunc := Qh (show gX Tryz.f150 [] = _ from rfl)
def Ze0 : CFunc := Qh (show gX Tryz.f151 [] = _ from rfl)
def Z8j : CFunc := Qh (show gX Tryz.f152 [] = _ from rfl)
def Ze1 : CFunc := Qh (show gX Tryz.f153 [] = _ from rfl)
def Zb0 : CFunc := Qh (show gX Tryz.f154 [] = _ from rfl)
def Zep : CFunc := Qh (show gX Tryz.f156 [] = _ from rfl)
def Zal : CFunc := Qh (show gX Tryz.f157 [] = _ from rfl)
def Z5x : CFunc := Qh (show gX Tryz.f158 [] = _ from rfl)
def Z9r : CFunc := Qh (show gX Tryz.f159 [] = _ from rfl)
def Z5b : CFunc := Qh (show gX Tryz.f160 [] = _ from rfl)
def Zb9 : CFunc := Qh (show gX Tryz.f161 [false, false, false, false, false, false, true] = _ from rfl)
def Z6c : CFunc := Qh (show gX Tryz.f162 [] = _ from rfl)
def Z7v : CFunc := Qh (show gX Tryz.f163 [] = _ from rfl)
def Zd8 : CFunc := Qh (show gX Tryz.f164 [] = _ from rfl)
def Z8r : CFunc := Qh (show gX Tryz.f165 [] = _ from rfl)
def Z6d : CFunc := Qh (show gX Tryz.f166 [] = _ from rfl)
def Zfu : CFunc := Qh (show gX Tryz.f167 [] = _ from rfl)
def Ze9 : CFunc := Qh (show gX Tryz.f168 [false, false, false, false, false, true, true, false, false, true, false, true, false, true, false, true, false, true, false, true] = _ from rfl)
def Zdh : CFunc := Qh (show gX Tryz.f169 [] = _ from rfl)
def Z8c : CFunc := Qh (show gX Tryz.f170 [] = _ from rfl)
def Z8e : CFunc := Qh (show gX Tryz.f171 [] = _ from rfl)
def Zaz : CFunc := Qh (show gX Tryz.f172 [] = _ from rfl)
def Zc6 : CFunc := Qh (show gX Tryz.f173 [] = _ from rfl)
def Z7m : CFunc := Qh (show gX Tryz.f174 [] = _ from rfl)
def Z7s : CFunc := Qh (show gX Tryz.f175 [] = _ from rfl)
def Z64 : CFunc := Qh (show gX Tryz.f176 [] = _ from rfl)
def Zgg : CFunc := Qh (show gX Tryz.f177 [] = _ from rfl)
def Zcg : CFunc := Qh (show gX Tryz.f178 [] = _ from rfl)
def Z8a : CFunc := Qh (show gX Tryz.f179 [] = _ from rfl)
def Z84 : CFunc := Qh (show gX Tryz.f180 [] = _ from rfl)
def Z6p : CFunc := Qh (show gX Tryz.f181 [] = _ from rfl)
def Zaf : CFunc := Qh (show gX Tryz.f182 [] = _ from rfl)
def Zc5 : CFunc := Qh (show gX Tryz.f183 [] = _ from rfl)
def Zay : CFunc := Qh (show gX Tryz.f184 [] = _ from rfl)
def Zbw : CFunc := Qh (show gX Tryz.f185 [] = _ from rfl)
def Za0 : CFunc := Qh (show gX Tryz.f186 [] = _ from rfl)
def Z6q : CFunc := Qh (show gX Tryz.f187 [] = _ from rfl)
def Zen : CFunc := Qh (show gX Tryz.f188 [] = _ from rfl)
def Zfr : CFunc := Qh (show gX Tryz.f189 [] = _ from rfl)
def Zd7 : CFunc := Qh (show gX Tryz.f190 [] = _ from rfl)
def Zg9 : CFunc := Qh (show gX Tryz.f191 [] = _ from rfl)
def Zcd : CFunc := Qh (show gX Tryz.f192 [] = _ from rfl)
def Zaa : CFunc := Qh (show gX Tryz.f193 [] = _ from rfl)
def Zbq : CFunc := Qh (show gX Tryz.f194 [] = _ from rfl)
def Z78 : CFunc := Qh (show gX Tryz.f195 [] = _ from rfl)
def Zcq : CFunc := Qh (show gX Tryz.f196 [] = _ from rfl)
def Z7r : CFunc := Qh (show gX Tryz.f197 [] = _ from rfl)
def Zgy : CFunc := Qh (show gX Tryz.f198 [] = _ from rfl)
def Zdj : CFunc := Qh (show gX Tryz.f199 [] = _ from rfl)
def Zfp : CFunc := Qh (show gX Tryz.f200 [] = _ from rfl)
def Z5a : CFunc := Qh (show gX Tryz.f201 [] = _ from rfl)
def Z7z : CFunc := Qh (show gX Tryz.f202 [] = _ from rfl)
def Z67 : CFunc := Qh (show gX Tryz.f203 [] = _ from rfl)
def Zfw : CFunc := Qh (show gX Tryz.f204 [] = _ from rfl)
def Zcj : CFunc := Qh (show gX Tryz.f205 [] = _ from rfl)
def Z69 : CFunc := Qh (show gX Tryz.f206 [] = _ from rfl)
def Z9s : CFunc := Qh (show gX Tryz.f207 [] = _ from rfl)
def Zdk : CFunc := Qh (show gX Tryz.f208 [] = _ from rfl)
def Z7x : CFunc := Qh (show gX Tryz.f209 [] = _ from rfl)
def Zcb : CFunc := Qh (show gX Tryz.f210 [] = _ from rfl)
def Zed : CFunc := Qh (show gX Tryz.f211 [] = _ from rfl)
def Z7k : CFunc := Qh (show gX Tryz.f212 [] = _ from rfl)
def Z9m : CFunc := Qh (show gX Tryz.f213 [] = _ from rfl)
def Zel : CFunc := Qh (show gX Tryz.f214 [] = _ from rfl)
def Z5t : CFunc := Qh (show gX Tryz.f215 [] = _ from rfl)
def Zfd : CFunc := Qh (show gX Tryz.f216 [] = _ from rfl)
def Z8i : CFunc := Qh (show gX Tryz.f217 [] = _ from rfl)
def Zfx : CFunc := Qh (show gX Tryz.f218 [] = _ from rfl)
def Zch : CFunc := Qh (show gX Tryz.f219 [] = _ from rfl)
def Zdz : CFunc := Qh (show gX Tryz.f220 [] = _ from rfl)
def Z8k : CFunc := Qh (show gX Tryz.f221 [] = _ from rfl)
def Z72 : CFunc := Qh (show gX Tryz.f222 [] = _ from rfl)
def Za4 : CFunc := Qh (show gX Tryz.f223 [] = _ from rfl)
def Z6i : CFunc := Qh (show gX Tryz.f224 [] = _ from rfl)
def Z8z : CFunc := Qh (show gX Tryz.f225 [] = _ from rfl)
def Zgp : CFunc := Qh (show gX Tryz.f226 [] = _ from rfl)
def Zfg : CFunc := Qh (show gX Tryz.f227 [] = _ from rfl)
def Zak : CFunc := Qh (show gX Tryz.f228 [] = _ from rfl)
def Zax : CFunc := Qh (show gX Tryz.f229 [] = _ from rfl)
def Zai : CFunc := Qh (show gX Tryz.f230 [] = _ from rfl)
def Zbj : CFunc := Qh (show gX Tryz.f231 [] = _ from rfl)
def Zcw : CFunc := Qh (show gX Tryz.f232 [] = _ from rfl)
def Zdi : CFunc := Qh (show gX Tryz.f233 [] = _ from rfl)
def Zdq : CFunc := Qh (show gX Tryz.f235 [] = _ from rfl)
def Zc7 : CFunc := Qh (show gX Tryz.f236 [] = _ from rfl)
def Zbr : CFunc := Qh (show gX Tryz.f237 [] = _ from rfl)
def Zeo : CFunc := Qh (show gX Tryz.f238 [] = _ from rfl)
def Z5c : CFunc := Qh (show gX Tryz.f239 [] = _ from rfl)
def Zbi : CFunc := Qh (show gX Tryz.f240 [] = _ from rfl)
def Zd2 : CFunc := Qh (show gX Tryz.f241 [] = _ from rfl)
def Za9 : CFunc := Qh (show gX Tryz.f242 [] = _ from rfl)
def Z9y : CFunc := Qh (show gX Tryz.f243 [] = _ from rfl)
def Zg8 : CFunc := Qh (show gX Tryz.f244 [] = _ from rfl)
def Zef : CFunc := Qh (show gX Tryz.f245 [] = _ from rfl)
def Zbn : CFunc := Qh (show gX Tryz.f246 [] = _ from rfl)
def Z5f : CFunc := Qh (show gX Tryz.f247 [] = _ from rfl)
def Zbe : CFunc := Qh (show gX Tryz.f248 [] = _ from rfl)
def Zfv : CFunc := Qh (show gX Tryz.f249 [] = _ from rfl)
def Z8q : CFunc := Qh (show gX Tryz.f250 [] = _ from rfl)
def Zgk : CFunc := Qh (show gX Tryz.f251 [] = _ from rfl)
def Za1 : CFunc := Qh (show gX Tryz.f252 [] = _ from rfl)
def Z9u : CFunc := Qh (show gX Tryz.f253 [] = _ from rfl)
def Z7g : CFunc := Qh (show gX Tryz.f254 [] = _ from rfl)
def Zda : CFunc := Qh (show gX Tryz.f255 [] = _ from rfl)
def Z6t : CFunc := Qh (show gX Tryz.f256 [] = _ from rfl)
def Zf8 : CFunc := Qh (show gX Tryz.f257 [] = _ from rfl)
def Z66 : CFunc := Qh (show gX Tryz.f258 [] = _ from rfl)
def Z9v : CFunc := Qh (show gX Tryz.f259 [] = _ from rfl)
def Zaw : CFunc := Qh (show gX Tryz.f260 [] = _ from rfl)
def Z70 : CFunc := Qh (show gX Tryz.f261 [] = _ from rfl)
def Zb4 : CFunc := Qh (show gX Tryz.f262 [] = _ from rfl)
def Z9i : CFunc := Qh (show gX Tryz.f263 [] = _ from rfl)
def Z9f : CFunc := Qh (show gX Tryz.f264 [] = _ from rfl)
def Zem : CFunc := Qh (show gX Tryz.f265 [] = _ from rfl)
def Zce : CFunc := Qh (show gX Tryz.f266 [] = _ from rfl)
def Z6o : CFunc := Qh (show gX Tryz.f267 [] = _ from rfl)
def Zgw : CFunc := Qh (show gX Tryz.f268 [] = _ from rfl)
def Zah : CFunc := Qh (show gX Tryz.f269 [] = _ from rfl)
def Zft : CFunc := Qh (show gX Tryz.f270 [] = _ from rfl)
def Z9d : CFunc := Qh (show gX Tryz.f271 [] = _ from rfl)
def Za5 : CFunc := Qh (show gX Tryz.f272 [] = _ from rfl)
def Ze4 : CFunc := Qh (show gX Tryz.f273 [] = _ from rfl)
def Z77 : CFunc := Qh (show gX Tryz.f274 [] = _ from rfl)
def Z79 : CFunc := Qh (show gX Tryz.f275 [] = _ from rfl)
def Zgm : CFunc := Qh (show gX Tryz.f276 [] = _ from rfl)
def Z5g : CFunc := Qh (show gX Tryz.f277 [] = _ from rfl)
def Zab : CFunc := Qh (show gX Tryz.f278 [] = _ from rfl)
def Zee : CFunc := Qh (show gX Tryz.f279 [] = _ from rfl)
def Z9z : CFunc := Qh (show gX Tryz.f280 [] = _ from rfl)
def Zek : CFunc := Qh (show gX Tryz.f281 [] = _ from rfl)
def Z7u : CFunc := Qh (show gX Tryz.f282 [] = _ from rfl)
def Zfa : CFunc := Qh (show gX Tryz.f283 [] = _ from rfl)
def Zgf : CFunc := Qh (show gX Tryz.f284 [] = _ from rfl)
def Zgn : CFunc := Qh (show gX Tryz.f285 [] = _ from rfl)
def Z9x : CFunc := Qh (show gX Tryz.f286 [] = _ from rfl)
def Zcl : CFunc := Qh (show gX Tryz.f287 [] = _ from rfl)
def Zd0 : CFunc := Qh (show gX Tryz.f288 [] = _ from rfl)
def Zd6 : CFunc := Qh (show gX Tryz.f289 [] = _ from rfl)
def Z9p : CFunc := Qh (show gX Tryz.f290 [] = _ from rfl)
def Zfy : CFunc := Qh (show gX Tryz.f291 [] = _ from rfl)
def Z9n : CFunc := Qh (show gX Tryz.f292 [] = _ from rfl)
def Z6y : CFunc := Qh (show gX Tryz.f293 [] = _ from rfl)
def Z7h : CFunc := Qh (show gX Tryz.f294 [] = _ from rfl)
def Zb1 : CFunc := Qh (show gX Tryz.f295 [] = _ from rfl)
def Zbh : CFunc := Qh (show gX Tryz.f296 [] = _ from rfl)
def Z7a : CFunc := Qh (show gX Tryz.f297 [] = _ from rfl)
def Z6a : CFunc := Qh (show gX Tryz.f298 [] = _ from rfl)
def Z5h : CFunc := Qh (show gX Tryz.f299 [] = _ from rfl)
def Zb5 : CFunc := Qh (show gX Tryz.f300 [] = _ from rfl)
def Za2 : CFunc := Qh (show gX Tryz.f301 [] = _ from rfl)
def Zbx : CFunc := Qh (show gX Tryz.f302 [] = _ from rfl)
def Z7p : CFunc := Qh (show gX Tryz.f303 [] = _ from rfl)
def Zba : CFunc := Qh (show gX Tryz.f304 [] = _ from rfl)
def Z9w : CFunc := Qh (show gX Tryz.f305 [] = _ from rfl)
def Z88 : CFunc := Qh (show gX Tryz.f306 [] = _ from rfl)
def Zcc : CFunc := Qh (show gX Tryz.f307 [] = _ from rfl)
def Zad : CFunc := Qh (show gX Tryz.f308 [] = _ from rfl)
def Z73 : CFunc := Qh (show gX Tryz.f309 [] = _ from rfl)
def Ze8 : CFunc := Qh (show gX Tryz.f310 [] = _ from rfl)
def Zg2 : CFunc := Qh (show gX Tryz.f311 [] = _ from rfl)
def Zap : CFunc := Qh (show gX Tryz.f312 [] = _ from rfl)
def Zd4 : CFunc := Qh (show gX Tryz.f313 [] = _ from rfl)
def Z58 : CFunc := Qh (show gX Tryz.f314 [] = _ from rfl)
def Zdm : CFunc := Qh (show gX Tryz.f315 [] = _ from rfl)
def Zgo : CFunc := Qh (show gX Tryz.f316 [] = _ from rfl)
def Z87 : CFunc := Qh (show gX Tryz.f317 [] = _ from rfl)
def Z8b : CFunc := Qh (show gX Tryz.f318 [] = _ from rfl)
def Z7w : CFunc := Qh (show gX Tryz.f319 [] = _ from rfl)
def Z74 : CFunc := Qh (show gX Tryz.f320 [] = _ from rfl)
def Zga : CFunc := Qh (show gX Tryz.f321 [] = _ from rfl)
def Z6l : CFunc := Qh (show gX Tryz.f322 [] = _ from rfl)
def Zfs : CFunc := Qh (show gX Tryz.f323 [] = _ from rfl)
def Z65 : CFunc := Qh (show gX Tryz.f324 [] = _ from rfl)
def Za3 : CFunc := Qh (show gX Tryz.f325 [] = _ from rfl)
def Zb3 : CFunc := Qh (show gX Tryz.f326 [] = _ from rfl)
def Z6k : CFunc := Qh (show gX Tryz.f327 [] = _ from rfl)
def Z6r : CFunc := Qh (show gX Tryz.f328 [] = _ from rfl)
def Z62 : CFunc := Qh (show gX Tryz.f329 [] = _ from rfl)
def Z6m : CFunc := Qh (show gX Tryz.f330 [] = _ from rfl)
def Zg5 : CFunc := Qh (show gX Tryz.f331 [] = _ from rfl)
def Zfl : CFunc := Qh (show gX Tryz.f332 [] = _ from rfl)
def Zbd : CFunc := Qh (show gX Tryz.f333 [] = _ from rfl)
def Zgb : CFunc := Qh (show gX Tryz.f334 [] = _ from rfl)
def Zby : CFunc := Qh (show gX Tryz.f335 [] = _ from rfl)
def Z5o : CFunc := Qh (show gX Tryz.f336 [] = _ from rfl)
def Zdr : CFunc := Qh (show gX Tryz.f337 [] = _ from rfl)
def Z6v : CFunc := Qh (show gX Tryz.f338 [] = _ from rfl)
def Zcv : CFunc := Qh (show gX Tryz.f339 [] = _ from rfl)
def Zf6 : CFunc := Qh (show gX Tryz.f342 [] = _ from rfl)
def Z92 : CFunc := Qh (show gX Tryz.f343 [] = _ from rfl)
def Z6z : CFunc := Qh (show gX Tryz.f344 [] = _ from rfl)
def Z8g : CFunc := Qh (show gX Tryz.f345 [] = _ from rfl)
def Z9o : CFunc := Qh (show gX Tryz.f346 [] = _ from rfl)
def Zfo : CFunc := Qh (show gX Tryz.f347 [false, false, true] = _ from rfl)
def Z56 : CFunc := Qh (show gX Tryz.f348 [] = _ from rfl)
def Zeg : CFunc := Qh (show gX Tryz.f349 [] = _ from rfl)
def Zgv : CFunc := Qh (show gX Tryz.f350 [] = _ from rfl)
def Z6x : CFunc := Qh (show gX Tryz.f351 [] = _ from rfl)
def Zf0 : CFunc := Qh (show gX Tryz.f352 [] = _ from rfl)
def Z6s : CFunc := Qh (show gX Tryz.f353 [] = _ from rfl)
def Z5s : CFunc := Qh (show gX Tryz.f354 [] = _ from rfl)
def Z9k : CFunc := Qh (show gX Tryz.f355 [] = _ from rfl)
def Zg0 : CFunc := Qh (show gX Tryz.f357 [] = _ from rfl)
def Zdc : CFunc := Qh (show gX Tryz.f358 [] = _ from rfl)
def Zbm : CFunc := Qh (show gX Tryz.f359 [] = _ from rfl)
def Qva : List (Option CFunc) := [none, none, none, some c3, some c4, some c5, some c6, some c7, some c8, some c9, some c10, some c11, some c12, some c13, some c14, some c15, some c16, some c17, some c18, some c19, some c20, some c21, some c22, some c23, some c24, some c25, some c26, some c27, some c28, some c29, some c30, some c31, some c32, some c33, some c34, some c35, some c36, some c37, some c38, some c39, some c40, some c41, some c42, some c43, some c44, some c45, some c46, some c47, some c48, some c49, some c50, some c51, some c52, some c53, some c54, some c55, some c56, some c57, some c58, some c59, some c60, some c61, some c62, some c63, some c64, some c65, some c66, some c67, some c68, some c69, some c70, some c71, some c72, some c73, some c74, some c75, some c76, some c77, some c78, some c79, some c80, some c81, some c82, some c83, some c84, some c85, some c86, some c87, some c88, some c89, some c90, some c91, some c92, some c93, some c94, some c95, some c96, some c97, some c98, some c99, some Z98, some Zg3, some Z86, some Z9a, some Zgs, some Zea, some Z8n, some Zg7, some Z55, some Zdl, some Zg1, some Z8h, some Zdp, some Zds, some Zbu, some Zdy, some Zat, some Zc4, some Z57, some Zfm, some Zff, some Z7i, some Zdd, some Z7l, some Zgq, some Z8d, some Zdu, some Z5k, some Z80, some Zck, some Z6b, some Z7d, some Zac, some Zaq, some Z9q, some Z7f, some Za7, some Z5m, some Z6e, some Z81, some Z9g, some Zex, some Z6j, some Zbv, some Zcz, some Zcu, some Zf3, some Zey, some Z5q, some Z8w, some Zav, some Ze0, some Z8j, some Ze1, some Zb0, none, some Zep, some Zal, some Z5x, some Z9r, some Z5b, some Zb9, some Z6c, some Z7v, some Zd8, some Z8r, some Z6d, some Zfu, some Ze9, some Zdh, some Z8c, some Z8e, some Zaz, some Zc6, some Z7m, some Z7s, some Z64, some Zgg, some Zcg, some Z8a, some Z84, some Z6p, some Zaf, some Zc5, some Zay, some Zbw, some Za0, some Z6q, some Zen, some Zfr, some Zd7, some Zg9, some Zcd, some Zaa, some Zbq, some Z78, some Zcq, some Z7r, some Zgy, some Zdj, some Zfp, some Z5a, some Z7z, some Z67, some Zfw, some Zcj, some Z69, some Z9s, some Zdk, some Z7x, some Zcb, some Zed, some Z7k, some Z9m, some Zel, some Z5t, some Zfd, some Z8i, some Zfx, some Zch, some Zdz, some Z8k, some Z72, some Za4, some Z6i, some Z8z, some Zgp, some Zfg, some Zak, some Zax, some Zai, some Zbj, some Zcw, some Zdi, none, some Zdq, some Zc7, some Zbr, some Zeo, some Z5c, some Zbi, some Zd2, some Za9, some Z9y, some Zg8, some Zef, some Zbn, some Z5f, some Zbe, some Zfv, some Z8q, some Zgk, some Za1, some Z9u, some Z7g, some Zda, some Z6t, some Zf8, some Z66, some Z9v, some Zaw, some Z70, some Zb4, some Z9i, some Z9f, some Zem, some Zce, some Z6o, some Zgw, some Zah, some Zft, some Z9d, some Za5, some Ze4, some Z77, some Z79, some Zgm, some Z5g, some Zab, some Zee, some Z9z, some Zek, some Z7u, some Zfa, some Zgf, some Zgn, some Z9x, some Zcl, some Zd0, some Zd6, some Z9p, some Zfy, some Z9n, some Z6y, some Z7h, some Zb1, some Zbh, some Z7a, some Z6a, some Z5h, some Zb5, some Za2, some Zbx, some Z7p, some Zba, some Z9w, some Z88, some Zcc, some Zad, some Z73, some Ze8, some Zg2, some Zap, some Zd4, some Z58, some Zdm, some Zgo, some Z87, some Z8b, some Z7w, some Z74, some Zga, some Z6l, some Zfs, some Z65, some Za3, some Zb3, some Z6k, some Z6r, some Z62, some Z6m, some Zg5, some Zfl, some Zbd, some Zgb, some Zby, some Z5o, some Zdr, some Z6v, some Zcv, none, none, some Zf6, some Z92, some Z6z, some Z8g, some Z9o, some Zfo, some Z56, some Zeg, some Zgv, some Z6x, some Zf0, some Z6s, some Z5s, some Z9k, none, some Zg0, some Zdc, some Zbm]
end
end Go.Av
