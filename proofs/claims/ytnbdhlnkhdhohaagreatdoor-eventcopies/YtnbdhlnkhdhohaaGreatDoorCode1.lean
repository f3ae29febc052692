/- Part of the proof of EventCopies: for every input the law returns true; no condition. -/
import Derived.Test.YtnbdhlnkhdhohaaGreatDoorAvGen
import Derived.Test.YtnbdhlnkhdhohaaGreatDoorProg
namespace Go.Av
open Go.Proofs.Tryz
noncomputable section
open Go.Proofs
set_option maxRecDepth 100000
abbrev w6 : PV := .int .i64 0
abbrev wb : PV := .bool false
abbrev w1 : PV := .int .u8 0
abbrev w8 : PV := .int .u64 0
abbrev ws : PV := .str []
abbrev wn : PV := .nilSlice
def tyT : List TI := [⟨1, .func, 1, 8, [.nilFunc]⟩,
⟨2, .int .i64, 1, 8, [w6]⟩,
⟨3, .int .i64, 1, 8, [w6]⟩,
⟨4, .bool, 1, 1, [wb]⟩,
⟨5, .int .u8, 1, 1, [w1]⟩,
⟨9, .str, 1, 16, [ws]⟩,
⟨12, .int .u64, 1, 8, [w8]⟩,
⟨21, .int .i32, 1, 4, [.int .i32 (0)]⟩,
⟨22, .slice 50, 1, 24, [wn]⟩,
⟨23, .slice 52, 1, 24, [wn]⟩,
⟨25, .struct [(0, 9), (1, 9), (2, 3), (3, 4), (4, 22)], 5, 72, [ws, ws, w6, wb, wn]⟩,
⟨26, .slice 3, 1, 24, [wn]⟩,
⟨27, .slice 54, 1, 24, [wn]⟩,
⟨29, .struct [(0, 3), (1, 4), (2, 4), (3, 3), (4, 3), (5, 9), (6, 9), (7, 4), (8, 3), (9, 9), (10, 4), (11, 9), (12, 4), (13, 9), (14, 4), (15, 25), (20, 4), (21, 3), (22, 26), (23, 27), (24, 22)], 25, 312, [w6, wb, wb, w6, w6, ws, ws, wb, w6, ws, wb, ws, wb, ws, wb, ws, ws, w6, wb, wn, wb, w6, wn, wn, wn]⟩,
⟨31, .struct [(0, 4), (1, 3), (2, 4), (3, 4), (4, 4), (5, 3)], 6, 32, [wb, w6, wb, wb, wb, w6]⟩,
⟨33, .struct [(0, 3), (1, 31), (7, 3), (8, 3), (9, 3), (10, 4), (11, 3), (12, 3), (13, 3), (14, 9), (15, 9)], 16, 128, [w6, wb, w6, wb, wb, wb, w6, w6, w6, w6, wb, w6, w6, w6, ws, ws]⟩,
⟨34, .slice 57, 1, 24, [wn]⟩,
⟨36, .struct [(0, 3), (1, 3), (2, 9), (3, 34)], 4, 56, [w6, w6, ws, wn]⟩,
⟨38, .struct [(0, 3), (1, 3), (2, 9), (3, 9), (4, 3), (5, 4), (6, 4), (7, 3), (8, 22), (9, 3), (10, 23), (11, 3), (12, 29), (37, 33), (53, 36)], 57, 632, [w6, w6, ws, ws, w6, wb, wb, w6, wn, w6, wn, w6, w6, wb, wb, w6, w6, ws, ws, wb, w6, ws, wb, ws, wb, ws, wb, ws, ws, w6, wb, wn, wb, w6, wn, wn, wn, w6, wb, w6, wb, wb, wb, w6, w6, w6, w6, wb, w6, w6, w6, ws, ws, w6, w6, ws, wn]⟩,
⟨40, .struct [(0, 3), (1, 3)], 2, 16, [w6, w6]⟩,
⟨41, .func, 1, 8, [.nilFunc]⟩,
⟨45, .int .i64, 1, 8, [w6]⟩,
⟨48, .int .u32, 1, 4, [.int .u32 (0)]⟩,
⟨50, .struct [(0, 3), (1, 48), (2, 9), (3, 9)], 4, 48, [w6, .int .u32 (0), ws, ws]⟩,
⟨52, .struct [(0, 3), (1, 9)], 2, 24, [w6, ws]⟩,
⟨54, .struct [(0, 9), (1, 3), (2, 4), (3, 4), (4, 3)], 5, 40, [ws, w6, wb, wb, w6]⟩,
⟨55, .int .u64, 1, 8, [w8]⟩,
⟨57, .struct [(0, 3), (1, 55), (2, 9), (3, 34)], 4, 56, [w6, w8, ws, wn]⟩,
⟨73, .struct [(0, 9)], 1, 16, [ws]⟩,
⟨75, .map 3 73, 1, 8, [.nilMap]⟩,
⟨82, .struct [(0, 23), (1, 33)], 17, 152, [wn, w6, wb, w6, wb, wb, wb, w6, w6, w6, w6, wb, w6, w6, w6, ws, ws]⟩,
⟨87, .struct [(0, 3), (1, 3), (2, 3), (3, 3), (4, 3), (5, 4), (6, 4), (7, 4), (8, 4), (9, 4), (10, 4), (11, 4), (12, 9), (13, 9), (14, 9), (15, 9), (16, 9)], 17, 128, [w6, w6, w6, w6, w6, wb, wb, wb, wb, wb, wb, wb, ws, ws, ws, ws, ws]⟩,
⟨93, .func, 1, 8, [.nilFunc]⟩,
⟨95, .struct [(0, 41), (1, 45)], 2, 16, [.nilFunc, w6]⟩,
⟨99, .slice 95, 1, 24, [wn]⟩,
⟨107, .func, 1, 8, [.nilFunc]⟩,
⟨109, .func, 1, 8, [.nilFunc]⟩,
⟨111, .func, 1, 8, [.nilFunc]⟩,
⟨120, .func, 1, 8, [.nilFunc]⟩,
⟨127, .map 3 133, 1, 8, [.nilMap]⟩,
⟨130, .array 64 3, 64, 512, List.replicate 64 w6⟩,
⟨131, .slice 5, 1, 24, [wn]⟩,
⟨133, .struct [(0, 3), (1, 3), (2, 48), (3, 48)], 4, 24, [w6, w6, .int .u32 (0), .int .u32 (0)]⟩,
⟨137, .func, 1, 8, [.nilFunc]⟩,
⟨138, .func, 1, 8, [.nilFunc]⟩,
⟨140, .struct [(0, 137), (1, 138)], 2, 16, [.nilFunc, .nilFunc]⟩,
⟨142, .map 3 140, 1, 8, [.nilMap]⟩,
⟨145, .struct [(0, 3), (1, 29)], 26, 320, [w6, w6, wb, wb, w6, w6, ws, ws, wb, w6, ws, wb, ws, wb, ws, wb, ws, ws, w6, wb, wn, wb, w6, wn, wn, wn]⟩,
⟨147, .func, 1, 8, [.nilFunc]⟩,
⟨150, .int .u64, 1, 8, [w8]⟩,
⟨152, .slice 154, 1, 24, [wn]⟩,
⟨154, .struct [(0, 57), (4, 152), (5, 3), (6, 3)], 7, 96, [w6, w8, ws, wn, wn, w6, w6]⟩,
⟨158, .array 24 5, 24, 24, List.replicate 24 w1⟩,
⟨166, .array 256 4, 256, 256, List.replicate 256 wb⟩,
⟨177, .struct [(0, 3), (1, 3), (2, 3)], 3, 24, [w6, w6, w6]⟩,
⟨179, .struct [(0, 3), (1, 177), (4, 9)], 5, 48, [w6, w6, w6, w6, ws]⟩,
⟨187, .func, 1, 8, [.nilFunc]⟩,
⟨188, .map 3 187, 1, 8, [.nilMap]⟩,
⟨192, .struct [(0, 3), (1, 3), (2, 3), (3, 4), (4, 4)], 5, 32, [w6, w6, w6, wb, wb]⟩,
⟨196, .array 20 55, 20, 160, List.replicate 20 w8⟩,
⟨197, .array 65 5, 65, 65, List.replicate 65 w1⟩,
⟨206, .ptr, 1, 8, [.nilPtr]⟩,
⟨208, .struct [(0, 206), (1, 3), (2, 33), (18, 131), (19, 4)], 20, 176, [.nilPtr, w6, w6, wb, w6, wb, wb, wb, w6, w6, w6, w6, wb, w6, w6, w6, ws, ws, wn, wb]⟩,
⟨210, .slice 192, 1, 24, [wn]⟩,
⟨213, .func, 1, 8, [.nilFunc]⟩,
⟨220, .struct [(0, 206), (1, 3)], 2, 16, [.nilPtr, w6]⟩,
⟨223, .func, 1, 8, [.nilFunc]⟩,
⟨226, .ptr, 1, 8, [.nilPtr]⟩,
⟨244, .ptr, 1, 8, [.nilPtr]⟩,
⟨245, .slice 1, 1, 24, [wn]⟩,
⟨250, .array 256 5, 256, 256, List.replicate 256 w1⟩,
⟨252, .struct [(0, 5), (1, 5)], 2, 2, [w1, w1]⟩,
⟨253, .array 16 252, 32, 32, List.replicate 32 w1⟩,
⟨255, .func, 1, 8, [.nilFunc]⟩,
⟨258, .array 32 5, 32, 32, List.replicate 32 w1⟩,
⟨259, .array 64 5, 64, 64, List.replicate 64 w1⟩,
⟨261, .slice 9, 1, 24, [wn]⟩,
⟨263, .struct [(0, 4), (1, 3)], 2, 16, [wb, w6]⟩,
⟨264, .slice 263, 1, 24, [wn]⟩,
⟨266, .struct [(0, 9), (1, 3), (2, 45)], 3, 32, [ws, w6, w6]⟩,
⟨274, .ptr, 1, 8, [.nilPtr]⟩,
⟨276, .struct [], 0, 0, []⟩,
⟨277, .map 3 93, 1, 8, [.nilMap]⟩,
⟨281, .slice 223, 1, 24, [wn]⟩,
⟨288, .ptr, 1, 8, [.nilPtr]⟩,
⟨290, .struct [(0, 288), (1, 131)], 2, 32, [.nilPtr, wn]⟩,
⟨297, .array 4 55, 4, 32, [w8, w8, w8, w8]⟩,
⟨301, .ptr, 1, 8, [.nilPtr]⟩,
⟨306, .struct [(0, 3), (1, 3), (2, 4), (3, 4)], 4, 24, [w6, w6, wb, wb]⟩,
⟨307, .map 3 311, 1, 8, [.nilMap]⟩,
⟨310, .struct [(0, 206), (1, 50)], 5, 56, [.nilPtr, w6, .int .u32 (0), ws, ws]⟩,
⟨311, .func, 1, 8, [.nilFunc]⟩,
⟨312, .ptr, 1, 8, [.nilPtr]⟩,
⟨315, .ptr, 1, 8, [.nilPtr]⟩,
⟨317, .ptr, 1, 8, [.nilPtr]⟩,
⟨322, .int .i64, 1, 8, [w6]⟩,
⟨328, .ptr, 1, 8, [.nilPtr]⟩,
⟨336, .int .u64, 1, 8, [w8]⟩,
⟨341, .other, 1, 8, [.nilPtr]⟩]
abbrev gX := Z48 tyT [(234, 1), (356, 2)] [] []
def c3 : CFunc := Qj (show gX f3 [] = _ from rfl)
def c5 : CFunc := Qj (show gX f5 [] = _ from rfl)
def c6 : CFunc := Qj (show gX f6 [] = _ from rfl)
def c7 : CFunc := Qj (show gX f7 [] = _ from rfl)
def c8 : CFunc := Qj (show gX f8 [] = _ from rfl)
def c9 : CFunc := Qj (show gX f9 [] = _ from rfl)
def c10 : CFunc := Qj (show gX f10 [] = _ from rfl)
def c12 : CFunc := Qj (show gX f12 [] = _ from rfl)
def c13 : CFunc := Qj (show gX f13 [] = _ from rfl)
def c14 : CFunc := Qj (show gX f14 [] = _ from rfl)
def c15 : CFunc := Qj (show gX f15 [] = _ from rfl)
def c16 : CFunc := Qj (show gX f16 [] = _ from rfl)
def c17 : CFunc := Qj (show gX f17 [] = _ from rfl)
def c18 : CFunc := Qj (show gX f18 [] = _ from rfl)
def c19 : CFunc := Qj (show gX f19 [] = _ from rfl)
def c20 : CFunc := Qj (show gX f20 [] = _ from rfl)
def c21 : CFunc := Qj (show gX f21 [] = _ from rfl)
def c22 : CFunc := Qj (show gX f22 [] = _ from rfl)
def c23 : CFunc := Qj (show gX f23 [false, false, true] = _ from rfl)
def c24 : CFunc := Qj (show gX f24 [] = _ from rfl)
def c25 : CFunc := Qj (show gX f25 [] = _ from rfl)
def c26 : CFunc := Qj (show gX f26 [] = _ from rfl)
def c27 : CFunc := Qj (show gX f27 [] = _ from rfl)
def c28 : CFunc := Qj (show gX f28 [] = _ from rfl)
def c29 : CFunc := Qj (show gX f29 [] = _ from rfl)
def c30 : CFunc := Qj (show gX f30 [] = _ from rfl)
def c31 : CFunc := Qj (show gX f31 [] = _ from rfl)
def c32 : CFunc := Qj (show gX f32 [] = _ from rfl)
def c33 : CFunc := Qj (show gX f33 [] = _ from rfl)
def c34 : CFunc := Qj (show gX f34 [] = _ from rfl)
def c35 : CFunc := Qj (show gX f35 [] = _ from rfl)
def c36 : CFunc := Qj (show gX f36 [] = _ from rfl)
def c37 : CFunc := Qj (show gX f37 [] = _ from rfl)
def c38 : CFunc := Qj (show gX f38 [] = _ from rfl)
def c39 : CFunc := Qj (show gX f39 [] = _ from rfl)
def c40 : CFunc := Qj (show gX f40 [] = _ from rfl)
def c41 : CFunc := Qj (show gX f41 [] = _ from rfl)
def c42 : CFunc := Qj (show gX f42 [] = _ from rfl)
def c43 : CFunc := Qj (show gX f43 [] = _ from rfl)
def c44 : CFunc := Qj (show gX f44 [] = _ from rfl)
def c45 : CFunc := Qj (show gX f45 [] = _ from rfl)
def c46 : CFunc := Qj (show gX f46 [] = _ from rfl)
def c47 : CFunc := Qj (show gX f47 [] = _ from rfl)
def c48 : CFunc := Qj (show gX f48 [] = _ from rfl)
def c49 : CFunc := Qj (show gX f49 [] = _ from rfl)
def c50 : CFunc := Qj (show gX f50 [] = _ from rfl)
def c51 : CFunc := Qj (show gX f51 [] = _ from rfl)
def c52 : CFunc := Qj (show gX f52 [] = _ from rfl)
def c53 : CFunc := Qj (show gX f53 [] = _ from rfl)
def c54 : CFunc := Qj (show gX f54 [] = _ from rfl)
def c55 : CFunc := Qj (show gX f55 [] = _ from rfl)
def c56 : CFunc := Qj (show gX f56 [] = _ from rfl)
def c57 : CFunc := Qj (show gX f57 [] = _ from rfl)
def c58 : CFunc := Qj (show gX f58 [] = _ from rfl)
def c59 : CFunc := Qj (show gX f59 [] = _ from rfl)
def c60 : CFunc := Qj (show gX f60 [] = _ from rfl)
def c61 : CFunc := Qj (show gX f61 [] = _ from rfl)
def c62 : CFunc := Qj (show gX f62 [] = _ from rfl)
def c63 : CFunc := Qj (show gX f63 [] = _ from rfl)
def c64 : CFunc := Qj (show gX f64 [] = _ from rfl)
def c65 : CFunc := Qj (show gX f65 [] = _ from rfl)
def c66 : CFunc := Qj (show gX f66 [] = _ from rfl)
def c67 : CFunc := Qj (show gX f67 [] = _ from rfl)
def c68 : CFunc := Qj (show gX f68 [] = _ from rfl)
def c69 : CFunc := Qj (show gX f69 [] = _ from rfl)
def c70 : CFunc := Qj (show gX f70 [] = _ from rfl)
def c71 : CFunc := Qj (show gX f71 [] = _ from rfl)
def c72 : CFunc := Qj (show gX f72 [] = _ from rfl)
def c73 : CFunc := Qj (show gX f73 [] = _ from rfl)
def c74 : CFunc := Qj (show gX f74 [false, true, true, false, false, true, true] = _ from rfl)
def c75 : CFunc := Qj (show gX f75 [] = _ from rfl)
def c76 : CFunc := Qj (show gX f76 [false, false, true, true, true] = _ from rfl)
def c77 : CFunc := Qj (show gX f77 [] = _ from rfl)
def c78 : CFunc := Qj (show gX f78 [] = _ from rfl)
def c79 : CFunc := Qj (show gX f79 [] = _ from rfl)
def c80 : CFunc := Qj (show gX f80 [] = _ from rfl)
def c81 : CFunc := Qj (show gX f81 [] = _ from rfl)
def c82 : CFunc := Qj (show gX f82 [] = _ from rfl)
def c83 : CFunc := Qj (show gX f83 [] = _ from rfl)
def c84 : CFunc := Qj (show gX f84 [] = _ from rfl)
def c85 : CFunc := Qj (show gX f85 [] = _ from rfl)
def c86 : CFunc := Qj (show gX f86 [] = _ from rfl)
def c87 : CFunc := Qj (show gX f87 [] = _ from rfl)
def c88 : CFunc := Qj (show gX f88 [] = _ from rfl)
def c89 : CFunc := Qj (show gX f89 [] = _ from rfl)
def c90 : CFunc := Qj (show gX f90 [] = _ from rfl)
def c91 : CFunc := Qj (show gX f91 [] = _ from rfl)
def c92 : CFunc := Qj (show gX f92 [] = _ from rfl)
def c93 : CFunc := Qj (show gX f93 [] = _ from rfl)
def c94 : CFunc := Qj (show gX f94 [] = _ from rfl)
def c95 : CFunc := Qj (show gX f95 [] = _ from rfl)
def c96 : CFunc := Qj (show gX f96 [] = _ from rfl)
def c97 : CFunc := Qj (show gX f97 [] = _ from rfl)
def c98 : CFunc := Qj (show gX f98 [] = _ from rfl)
def c99 : CFunc := Qj (show gX f99 [] = _ from rfl)
def Ze8 : CFunc := Qj (show gX f100 [] = _ from rfl)
def Zgx : CFunc := Qj (show gX f101 [] = _ from rfl)
def Z8y : CFunc := Qj (show gX f102 [] = _ from rfl)
def Za5 : CFunc := Qj (show gX f103 [] = _ from rfl)
def Zg5 : CFunc := Qj (show gX f104 [] = _ from rfl)
def Z9v : CFunc := Qj (show gX f105 [] = _ from rfl)
def Zfa : CFunc := Qj (show gX f106 [] = _ from rfl)
def Zgg : CFunc := Qj (show gX f107 [] = _ from rfl)
def Z6l : CFunc := Qj (show gX f108 [] = _ from rfl)
def Zc4 : CFunc := Qj (show gX f109 [] = _ from rfl)
def Zfk : CFunc := Qj (show gX f110 [] = _ from rfl)
def Zeo : CFunc := Qj (show gX f111 [] = _ from rfl)
def Z66 : CFunc := Qj (show gX f112 [false, true] = _ from rfl)
def Zez : CFunc := Qj (show gX f113 [] = _ from rfl)
def Zh4 : CFunc := Qj (show gX f114 [] = _ from rfl)
def Zdy : CFunc := Qj (show gX f115 [] = _ from rfl)
def Zfp : CFunc := Qj (show gX f116 [] = _ from rfl)
def Zeg : CFunc := Qj (show gX f117 [] = _ from rfl)
def Z7k : CFunc := Qj (show gX f118 [] = _ from rfl)
def Zfv : CFunc := Qj (show gX f119 [] = _ from rfl)
def Z81 : CFunc := Qj (show gX f120 [] = _ from rfl)
def Zch : CFunc := Qj (show gX f121 [] = _ from rfl)
def Z6t : CFunc := Qj (show gX f122 [] = _ from rfl)
def Z5i : CFunc := Qj (show gX f123 [] = _ from rfl)
def Z5f : CFunc := Qj (show gX f124 [] = _ from rfl)
def Z8d : CFunc := Qj (show gX f125 [] = _ from rfl)
def Zgj : CFunc := Qj (show gX f126 [] = _ from rfl)
def Zbo : CFunc := Qj (show gX f127 [] = _ from rfl)
def Z9g : CFunc := Qj (show gX f128 [] = _ from rfl)
def Zd6 : CFunc := Qj (show gX f129 [] = _ from rfl)
def Zav : CFunc := Qj (show gX f130 [] = _ from rfl)
def Z94 : CFunc := Qj (show gX f131 [] = _ from rfl)
def Zh1 : CFunc := Qj (show gX f132 [] = _ from rfl)
def Zep : CFunc := Qj (show gX f133 [] = _ from rfl)
def Z7d : CFunc := Qj (show gX f134 [] = _ from rfl)
def Zbe : CFunc := Qj (show gX f135 [] = _ from rfl)
def Zbh : CFunc := Qj (show gX f136 [] = _ from rfl)
def Zen : CFunc := Qj (show gX f137 [] = _ from rfl)
def Z9u : CFunc := Qj (show gX f138 [] = _ from rfl)
def Zbb : CFunc := Qj (show gX f139 [] = _ from rfl)
def Zgp : CFunc := Qj (show gX f140 [] = _ from rfl)
def Z6g : CFunc := Qj (show gX f141 [] = _ from rfl)
def Zg1 : CFunc := Qj (show gX f142 [] = _ from rfl)
def Zda : CFunc := Qj (show gX f143 [] = _ from rfl)
def Zd7 : CFunc := Qj (show gX f144 [] = _ from rfl)
def Zap : CFunc := Qj (show gX f145 [] = _ from rfl)
def Zfu : CFunc := Qj (show gX f146 [] = _ from rfl)
def Zab : CFunc := Qj (show gX f147 [] = _ from rfl)
def Za9 : CFunc := Qj (show gX f148 [] = _ from rfl)
def Zes : CFunc := Qj (show gX f149 [] = _ from rfl)
def Zf1 : CFunc := Qj (show gX f150 [] = _ from rfl)
def Zao : CFunc := Qj (show gX f151 [] = _ from rfl)
def Z63 : CFunc := Qj (show gX f152 [] = _ from rfl)
def Zgf : CFunc := Qj (show gX f153 [] = _ from rfl)
def Z8o : CFunc := Qj (show gX f154 [] = _ from rfl)
def Z5v : CFunc := Qj (show gX f156 [] = _ from rfl)
def Z96 : CFunc := Qj (show gX f157 [] = _ from rfl)
def Zea : CFunc := Qj (show gX f158 [] = _ from rfl)
def Z9h : CFunc := Qj (show gX f159 [] = _ from rfl)
def Z8h : CFunc := Qj (show gX f160 [] = _ from rfl)
def Zcy : CFunc := Qj (show gX f161 [false, false, false, false, false, false, true] = _ from rfl)
def Zdp : CFunc := Qj (show gX f162 [] = _ from rfl)
def Z8r : CFunc := Qj (show gX f163 [] = _ from rfl)
def Z5x : CFunc := Qj (show gX f164 [] = _ from rfl)
def Zeb : CFunc := Qj (show gX f165 [] = _ from rfl)
def Zh3 : CFunc := Qj (show gX f166 [] = _ from rfl)
def Zfr : CFunc := Qj (show gX f167 [] = _ from rfl)
def Zgs : CFunc := Qj (show gX f168 [false, false, false, false, false, true, true, false, false, true, false, true, false, true, false, true, false, true, false, true] = _ from rfl)
def Z6c : CFunc := Qj (show gX f169 [] = _ from rfl)
def Zf7 : CFunc := Qj (show gX f170 [] = _ from rfl)
def Zh5 : CFunc := Qj (show gX f171 [] = _ from rfl)
def Zbu : CFunc := Qj (show gX f172 [] = _ from rfl)
def Zdr : CFunc := Qj (show gX f173 [] = _ from rfl)
def Zf2 : CFunc := Qj (show gX f174 [] = _ from rfl)
def Zbv : CFunc := Qj (show gX f175 [] = _ from rfl)
def Za2 : CFunc := Qj (show gX f176 [] = _ from rfl)
def Z5b : CFunc := Qj (show gX f177 [] = _ from rfl)
def Z9m : CFunc := Qj (show gX f178 [] = _ from rfl)
def Zbx : CFunc := Qj (show gX f179 [] = _ from rfl)
def Zer : CFunc := Qj (show gX f180 [] = _ from rfl)
def Zdw : CFunc := Qj (show gX f181 [] = _ from rfl)
def Zcx : CFunc := Qj (show gX f182 [] = _ from rfl)
def Zcf : CFunc := Qj (show gX f183 [] = _ from rfl)
def Zbf : CFunc := Qj (show gX f184 [] = _ from rfl)
def Z6m : CFunc := Qj (show gX f185 [] = _ from rfl)
def Ze5 : CFunc := Qj (show gX f186 [] = _ from rfl)
def Z88 : CFunc := Qj (show gX f187 [] = _ from rfl)
def Z5j : CFunc := Qj (show gX f188 [] = _ from rfl)
def Z64 : CFunc := Qj (show gX f189 [] = _ from rfl)
def Z6v : CFunc := Qj (show gX f190 [] = _ from rfl)
def Z5q : CFunc := Qj (show gX f191 [] = _ from rfl)
def Zg0 : CFunc := Qj (show gX f192 [] = _ from rfl)
def Zf8 : CFunc := Qj (show gX f193 [] = _ from rfl)
def Z9n : CFunc := Qj (show gX f194 [] = _ from rfl)
def Zcz : CFunc := Qj (show gX f195 [] = _ from rfl)
def Zdm : CFunc := Qj (show gX f196 [] = _ from rfl)
def Z6y : CFunc := Qj (show gX f197 [] = _ from rfl)
def Z9i : CFunc := Qj (show gX f198 [] = _ from rfl)
def Zbp : CFunc := Qj (show gX f199 [] = _ from rfl)
def Zdn : CFunc := Qj (show gX f200 [] = _ from rfl)
def Zd9 : CFunc := Qj (show gX f201 [] = _ from rfl)
def Zeu : CFunc := Qj (show gX f202 [] = _ from rfl)
def Zg6 : CFunc := Qj (show gX f203 [] = _ from rfl)
def Zh0 : CFunc := Qj (show gX f204 [] = _ from rfl)
def Zgd : CFunc := Qj (show gX f205 [] = _ from rfl)
def Zdl : CFunc := Qj (show gX f206 [] = _ from rfl)
def Zb5 : CFunc := Qj (show gX f207 [] = _ from rfl)
def Zfm : CFunc := Qj (show gX f208 [] = _ from rfl)
def Zfl : CFunc := Qj (show gX f209 [] = _ from rfl)
def Zdb : CFunc := Qj (show gX f210 [] = _ from rfl)
def Zds : CFunc := Qj (show gX f211 [] = _ from rfl)
def Zc0 : CFunc := Qj (show gX f212 [] = _ from rfl)
def Z9d : CFunc := Qj (show gX f213 [] = _ from rfl)
def Zfq : CFunc := Qj (show gX f214 [] = _ from rfl)
def Za6 : CFunc := Qj (show gX f215 [] = _ from rfl)
def Z99 : CFunc := Qj (show gX f216 [] = _ from rfl)
def Zd5 : CFunc := Qj (show gX f217 [] = _ from rfl)
def Z9j : CFunc := Qj (show gX f218 [] = _ from rfl)
def Zga : CFunc := Qj (show gX f219 [] = _ from rfl)
def Z5u : CFunc := Qj (show gX f220 [] = _ from rfl)
def Zgh : CFunc := Qj (show gX f221 [] = _ from rfl)
def Zbq : CFunc := Qj (show gX f222 [] = _ from rfl)
def Z6n : CFunc := Qj (show gX f223 [] = _ from rfl)
def Z5e : CFunc := Qj (show gX f224 [] = _ from rfl)
def Zct : CFunc := Qj (show gX f225 [] = _ from rfl)
def Zcp : CFunc := Qj (show gX f226 [] = _ from rfl)
def Z6h : CFunc := Qj (show gX f227 [] = _ from rfl)
def Zg2 : CFunc := Qj (show gX f228 [] = _ from rfl)
def Zev : CFunc := Qj (show gX f229 [] = _ from rfl)
def Z65 : CFunc := Qj (show gX f230 [] = _ from rfl)
def Zfz : CFunc := Qj (show gX f231 [] = _ from rfl)
def Z7b : CFunc := Qj (show gX f232 [] = _ from rfl)
def Za7 : CFunc := Qj (show gX f233 [] = _ from rfl)
def Zc5 : CFunc := Qj (show gX f235 [] = _ from rfl)
def Zan : CFunc := Qj (show gX f236 [] = _ from rfl)
def Z71 : CFunc := Qj (show gX f237 [] = _ from rfl)
def Zgb : CFunc := Qj (show gX f238 [] = _ from rfl)
def Z5s : CFunc := Qj (show gX f239 [] = _ from rfl)
def Z9a : CFunc := Qj (show gX f240 [] = _ from rfl)
def Zbk : CFunc := Qj (show gX f241 [] = _ from rfl)
def Za3 : CFunc := Qj (show gX f242 [] = _ from rfl)
def Z9z : CFunc := Qj (show gX f243 [] = _ from rfl)
def Zc6 : CFunc := Qj (show gX f244 [] = _ from rfl)
def Zfe : CFunc := Qj (show gX f245 [] = _ from rfl)
def Ze7 : CFunc := Qj (show gX f246 [] = _ from rfl)
def Z72 : CFunc := Qj (show gX f247 [] = _ from rfl)
def Zas : CFunc := Qj (show gX f248 [] = _ from rfl)
def Z62 : CFunc := Qj (show gX f249 [] = _ from rfl)
def Zdc : CFunc := Qj (show gX f250 [] = _ from rfl)
def Z8p : CFunc := Qj (show gX f251 [] = _ from rfl)
def Zad : CFunc := Qj (show gX f252 [] = _ from rfl)
def Zbl : CFunc := Qj (show gX f253 [] = _ from rfl)
def Z5o : CFunc := Qj (show gX f254 [] = _ from rfl)
def Z7f : CFunc := Qj (show gX f255 [] = _ from rfl)
def Z89 : CFunc := Qj (show gX f256 [] = _ from rfl)
def Z61 : CFunc := Qj (show gX f257 [] = _ from rfl)
def Zb6 : CFunc := Qj (show gX f258 [] = _ from rfl)
def Zfb : CFunc := Qj (show gX f259 [] = _ from rfl)
def Zdt : CFunc := Qj (show gX f260 [] = _ from rfl)
def Z70 : CFunc := Qj (show gX f261 [] = _ from rfl)
def Z6i : CFunc := Qj (show gX f262 [] = _ from rfl)
def Z78 : CFunc := Qj (show gX f263 [] = _ from rfl)
def Zd4 : CFunc := Qj (show gX f264 [] = _ from rfl)
def Zf9 : CFunc := Qj (show gX f265 [] = _ from rfl)
def Ze6 : CFunc := Qj (show gX f266 [] = _ from rfl)
def Z92 : CFunc := Qj (show gX f267 [] = _ from rfl)
def Zgw : CFunc := Qj (show gX f268 [] = _ from rfl)
def Zel : CFunc := Qj (show gX f269 [] = _ from rfl)
def Z5g : CFunc := Qj (show gX f270 [] = _ from rfl)
def Zgr : CFunc := Qj (show gX f271 [] = _ from rfl)
def Zft : CFunc := Qj (show gX f272 [] = _ from rfl)
def Zgz : CFunc := Qj (show gX f273 [] = _ from rfl)
def Zgu : CFunc := Qj (show gX f274 [] = _ from rfl)
def Z8j : CFunc := Qj (show gX f275 [] = _ from rfl)
def Z8e : CFunc := Qj (show gX f276 [] = _ from rfl)
def Z95 : CFunc := Qj (show gX f277 [] = _ from rfl)
def Zbi : CFunc := Qj (show gX f278 [] = _ from rfl)
def Z9o : CFunc := Qj (show gX f279 [] = _ from rfl)
def Zcd : CFunc := Qj (show gX f280 [] = _ from rfl)
def Z9f : CFunc := Qj (show gX f281 [] = _ from rfl)
def Z7i : CFunc := Qj (show gX f282 [] = _ from rfl)
def Z77 : CFunc := Qj (show gX f283 [] = _ from rfl)
def Zbs : CFunc := Qj (show gX f284 [] = _ from rfl)
def Z5t : CFunc := Qj (show gX f285 [] = _ from rfl)
def Zgi : CFunc := Qj (show gX f286 [] = _ from rfl)
def Zew : CFunc := Qj (show gX f287 [] = _ from rfl)
def Z9b : CFunc := Qj (show gX f288 [] = _ from rfl)
def Z8i : CFunc := Qj (show gX f289 [] = _ from rfl)
def Zb9 : CFunc := Qj (show gX f290 [] = _ from rfl)
def Zc1 : CFunc := Qj (show gX f291 [] = _ from rfl)
def Z7v : CFunc := Qj (show gX f292 [] = _ from rfl)
def Z67 : CFunc := Qj (show gX f293 [] = _ from rfl)
def Z85 : CFunc := Qj (show gX f294 [] = _ from rfl)
def Z5y : CFunc := Qj (show gX f295 [] = _ from rfl)
def Z5r : CFunc := Qj (show gX f296 [] = _ from rfl)
def Zd8 : CFunc := Qj (show gX f297 [] = _ from rfl)
def Z8g : CFunc := Qj (show gX f298 [] = _ from rfl)
def Zce : CFunc := Qj (show gX f299 [] = _ from rfl)
def Z9q : CFunc := Qj (show gX f300 [] = _ from rfl)
def Z8x : CFunc := Qj (show gX f301 [] = _ from rfl)
def Z73 : CFunc := Qj (show gX f302 [] = _ from rfl)
def Z7l : CFunc := Qj (show gX f303 [] = _ from rfl)
def Zaa : CFunc := Qj (show gX f304 [] = _ from rfl)
def Z84 : CFunc := Qj (show gX f305 [] = _ from rfl)
def Zfj : CFunc := Qj (show gX f306 [] = _ from rfl)
def Z9t : CFunc := Qj (show gX f307 [] = _ from rfl)
def Zbw : CFunc := Qj (show gX f308 [] = _ from rfl)
def Z7h : CFunc := Qj (show gX f309 [] = _ from rfl)
def Zed : CFunc := Qj (show gX f310 [] = _ from rfl)
def Z7u : CFunc := Qj (show gX f311 [] = _ from rfl)
def Zfd : CFunc := Qj (show gX f312 [] = _ from rfl)
def Zcc : CFunc := Qj (show gX f313 [] = _ from rfl)
def Z7q : CFunc := Qj (show gX f314 [] = _ from rfl)
def Z79 : CFunc := Qj (show gX f315 [] = _ from rfl)
def Z74 : CFunc := Qj (show gX f316 [] = _ from rfl)
def Zb1 : CFunc := Qj (show gX f317 [] = _ from rfl)
def Z6b : CFunc := Qj (show gX f318 [] = _ from rfl)
def Z8n : CFunc := Qj (show gX f319 [] = _ from rfl)
def Zej : CFunc := Qj (show gX f320 [] = _ from rfl)
def Z90 : CFunc := Qj (show gX f321 [] = _ from rfl)
def Z8a : CFunc := Qj (show gX f322 [] = _ from rfl)
def Z7o : CFunc := Qj (show gX f323 [] = _ from rfl)
def Zdd : CFunc := Qj (show gX f324 [] = _ from rfl)
def Z93 : CFunc := Qj (show gX f325 [] = _ from rfl)
def Zam : CFunc := Qj (show gX f326 [] = _ from rfl)
def Zd0 : CFunc := Qj (show gX f327 [] = _ from rfl)
def Za1 : CFunc := Qj (show gX f328 [] = _ from rfl)
def Z8l : CFunc := Qj (show gX f329 [] = _ from rfl)
def Ze1 : CFunc := Qj (show gX f330 [] = _ from rfl)
def Z5w : CFunc := Qj (show gX f331 [] = _ from rfl)
def Ze4 : CFunc := Qj (show gX f332 [] = _ from rfl)
def Zbc : CFunc := Qj (show gX f333 [] = _ from rfl)
def Zd3 : CFunc := Qj (show gX f334 [] = _ from rfl)
def Zf0 : CFunc := Qj (show gX f335 [] = _ from rfl)
def Zc3 : CFunc := Qj (show gX f336 [] = _ from rfl)
def Z5a : CFunc := Qj (show gX f337 [] = _ from rfl)
def Z76 : CFunc := Qj (show gX f338 [] = _ from rfl)
def Zal : CFunc := Qj (show gX f339 [] = _ from rfl)
def Z9w : CFunc := Qj (show gX f342 [] = _ from rfl)
def Zex : CFunc := Qj (show gX f343 [] = _ from rfl)
def Zem : CFunc := Qj (show gX f344 [] = _ from rfl)
def Zb7 : CFunc := Qj (show gX f345 [] = _ from rfl)
def Zby : CFunc := Qj (show gX f346 [] = _ from rfl)
def Z75 : CFunc := Qj (show gX f347 [false, false, true] = _ from rfl)
def Zbz : CFunc := Qj (show gX f348 [] = _ from rfl)
def Zd1 : CFunc := Qj (show gX f349 [] = _ from rfl)
def Z9e : CFunc := Qj (show gX f350 [] = _ from rfl)
def Z6q : CFunc := Qj (show gX f351 [] = _ from rfl)
def Zdf : CFunc := Qj (show gX f352 [] = _ from rfl)
def Zaz : CFunc := Qj (show gX f353 [] = _ from rfl)
def Zfi : CFunc := Qj (show gX f354 [] = _ from rfl)
def Zgc : CFunc := Qj (show gX f355 [] = _ from rfl)
def Ze9 : CFunc := Qj (show gX f357 [] = _ from rfl)
def Z7p : CFunc := Qj (show gX f358 [] = _ from rfl)
def Zbm : CFunc := Qj (show gX f359 [] = _ from rfl)
def Qvi : List (Option CFunc) := [none, none, none, some c3, none, some c5, some c6, some c7, some c8, some c9, some c10, none, some c12, some c13, some c14, some c15, some c16, some c17, some c18, some c19, some c20, some c21, some c22, some c23, some c24, some c25, some c26, some c27, some c28, some c29, some c30, some c31, some c32, some c33, some c34, some c35, some c36, some c37, some c38, some c39, some c40, some c41, some c42, some c43, some c44, some c45, some c46, some c47, some c48, some c49, some c50, some c51, some c52, some c53, some c54, some c55, some c56, some c57, some c58, some c59, some c60, some c61, some c62, some c63, some c64, some c65, some c66, some c67, some c68, some c69, some c70, some c71, some c72, some c73, some c74, some c75, some c76, some c77, some c78, some c79, some c80, some c81, some c82, some c83, some c84, some c85, some c86, some c87, some c88, some c89, some c90, some c91, some c92, some c93, some c94, some c95, some c96, some c97, some c98, some c99, some Ze8, some Zgx, some Z8y, some Za5, some Zg5, some Z9v, some Zfa, some Zgg, some Z6l, some Zc4, some Zfk, some Zeo, some Z66, some Zez, some Zh4, some Zdy, some Zfp, some Zeg, some Z7k, some Zfv, some Z81, some Zch, some Z6t, some Z5i, some Z5f, some Z8d, some Zgj, some Zbo, some Z9g, some Zd6, some Zav, some Z94, some Zh1, some Zep, some Z7d, some Zbe, some Zbh, some Zen, some Z9u, some Zbb, some Zgp, some Z6g, some Zg1, some Zda, some Zd7, some Zap, some Zfu, some Zab, some Za9, some Zes, some Zf1, some Zao, some Z63, some Zgf, some Z8o, none, some Z5v, some Z96, some Zea, some Z9h, some Z8h, some Zcy, some Zdp, some Z8r, some Z5x, some Zeb, some Zh3, some Zfr, some Zgs, some Z6c, some Zf7, some Zh5, some Zbu, some Zdr, some Zf2, some Zbv, some Za2, some Z5b, some Z9m, some Zbx, some Zer, some Zdw, some Zcx, some Zcf, some Zbf, some Z6m, some Ze5, some Z88, some Z5j, some Z64, some Z6v, some Z5q, some Zg0, some Zf8, some Z9n, some Zcz, some Zdm, some Z6y, some Z9i, some Zbp, some Zdn, some Zd9, some Zeu, some Zg6, some Zh0, some Zgd, some Zdl, some Zb5, some Zfm, some Zfl, some Zdb, some Zds, some Zc0, some Z9d, some Zfq, some Za6, some Z99, some Zd5, some Z9j, some Zga, some Z5u, some Zgh, some Zbq, some Z6n, some Z5e, some Zct, some Zcp, some Z6h, some Zg2, some Zev, some Z65, some Zfz, some Z7b, some Za7, none, some Zc5, some Zan, some Z71, some Zgb, some Z5s, some Z9a, some Zbk, some Za3, some Z9z, some Zc6, some Zfe, some Ze7, some Z72, some Zas, some Z62, some Zdc, some Z8p, some Zad, some Zbl, some Z5o, some Z7f, some Z89, some Z61, some Zb6, some Zfb, some Zdt, some Z70, some Z6i, some Z78, some Zd4, some Zf9, some Ze6, some Z92, some Zgw, some Zel, some Z5g, some Zgr, some Zft, some Zgz, some Zgu, some Z8j, some Z8e, some Z95, some Zbi, some Z9o, some Zcd, some Z9f, some Z7i, some Z77, some Zbs, some Z5t, some Zgi, some Zew, some Z9b, some Z8i, some Zb9, some Zc1, some Z7v, some Z67, some Z85, some Z5y, some Z5r, some Zd8, some Z8g, some Zce, some Z9q, some Z8x, some Z73, some Z7l, some Zaa, some Z84, some Zfj, some Z9t, some Zbw, some Z7h, some Zed, some Z7u, some Zfd, some Zcc, some Z7q, some Z79, some Z74, some Zb1, some Z6b, some Z8n, some Zej, some Z90, some Z8a, some Z7o, some Zdd, some Z93, some Zam, some Zd0, some Za1, some Z8l, some Ze1, some Z5w, some Ze4, some Zbc, some Zd3, some Zf0, some Zc3, some Z5a, some Z76, some Zal, none, none, some Z9w, some Zex, some Zem, some Zb7, some Zby, some Z75, some Zbz, some Zd1, some Z9e, some Z6q, some Zdf, some Zaz, some Zfi, some Zgc, none, some Ze9, some Z7p, some Zbm]
end
end Go.Av
