/- Part of the proof of CrossNames: for every input the law returns true; no condition. -/
import Derived.Test.YtnbfaogioomghaaGreatDoorAvGen
import Derived.Test.YtnbfaogioomghaaGreatDoorProg
namespace Go.Av
open Go.Proofs.Tryz
noncomputable section
open Go.Proofs
set_option maxRecDepth 100000
abbrev w6 : PV := .int .i64 0
abbrev wb : PV := .bool false
abbrev w1 : PV := .int .u8 0
abbrev w8 : PV := .int .u64 0
abbrev ws : PV := .str []
abbrev wn : PV := .nilSlice
def tyT : List TI := [⟨1, .func, 1, 8, [.nilFunc]⟩,
⟨2, .int .i64, 1, 8, [w6]⟩,
⟨3, .int .i64, 1, 8, [w6]⟩,
⟨4, .bool, 1, 1, [wb]⟩,
⟨5, .int .u8, 1, 1, [w1]⟩,
⟨9, .str, 1, 16, [ws]⟩,
⟨12, .int .u64, 1, 8, [w8]⟩,
⟨21, .int .i32, 1, 4, [.int .i32 (0)]⟩,
⟨22, .func, 1, 8, [.nilFunc]⟩,
⟨23, .slice 63, 1, 24, [wn]⟩,
⟨25, .struct [(0, 3), (1, 3), (2, 9), (3, 23)], 4, 56, [w6, w6, ws, wn]⟩,
⟨26, .int .i64, 1, 8, [w6]⟩,
⟨29, .slice 54, 1, 24, [wn]⟩,
⟨30, .slice 126, 1, 24, [wn]⟩,
⟨32, .struct [(0, 9), (1, 9), (2, 3), (3, 4), (4, 29)], 5, 72, [ws, ws, w6, wb, wn]⟩,
⟨33, .slice 3, 1, 24, [wn]⟩,
⟨34, .slice 157, 1, 24, [wn]⟩,
⟨36, .struct [(0, 3), (1, 4), (2, 4), (3, 3), (4, 3), (5, 9), (6, 9), (7, 4), (8, 3), (9, 9), (10, 4), (11, 9), (12, 4), (13, 9), (14, 4), (15, 32), (20, 4), (21, 3), (22, 33), (23, 34), (24, 29)], 25, 312, [w6, wb, wb, w6, w6, ws, ws, wb, w6, ws, wb, ws, wb, ws, wb, ws, ws, w6, wb, wn, wb, w6, wn, wn, wn]⟩,
⟨38, .struct [(0, 4), (1, 3), (2, 4), (3, 4), (4, 4), (5, 3)], 6, 32, [wb, w6, wb, wb, wb, w6]⟩,
⟨40, .struct [(0, 3), (1, 38), (7, 3), (8, 3), (9, 3), (10, 4), (11, 3), (12, 3), (13, 3), (14, 9), (15, 9)], 16, 128, [w6, wb, w6, wb, wb, wb, w6, w6, w6, w6, wb, w6, w6, w6, ws, ws]⟩,
⟨42, .struct [(0, 3), (1, 3), (2, 9), (3, 9), (4, 3), (5, 4), (6, 4), (7, 3), (8, 29), (9, 3), (10, 30), (11, 3), (12, 36), (37, 40), (53, 25)], 57, 632, [w6, w6, ws, ws, w6, wb, wb, w6, wn, w6, wn, w6, w6, wb, wb, w6, w6, ws, ws, wb, w6, ws, wb, ws, wb, ws, wb, ws, ws, w6, wb, wn, wb, w6, wn, wn, wn, w6, wb, w6, wb, wb, wb, w6, w6, w6, w6, wb, w6, w6, w6, ws, ws, w6, w6, ws, wn]⟩,
⟨46, .ptr, 1, 8, [.nilPtr]⟩,
⟨52, .int .u32, 1, 4, [.int .u32 (0)]⟩,
⟨54, .struct [(0, 3), (1, 52), (2, 9), (3, 9)], 4, 48, [w6, .int .u32 (0), ws, ws]⟩,
⟨57, .struct [(0, 3), (1, 3)], 2, 16, [w6, w6]⟩,
⟨61, .int .u64, 1, 8, [w8]⟩,
⟨63, .struct [(0, 3), (1, 61), (2, 9), (3, 23)], 4, 56, [w6, w8, ws, wn]⟩,
⟨69, .array 4 63, 16, 224, [w6, w8, ws, wn, w6, w8, ws, wn, w6, w8, ws, wn, w6, w8, ws, wn]⟩,
⟨70, .map 9 74, 1, 8, [.nilMap]⟩,
⟨72, .struct [(0, 70)], 1, 8, [.nilMap]⟩,
⟨74, .ptr, 1, 8, [.nilPtr]⟩,
⟨77, .map 9 3, 1, 8, [.nilMap]⟩,
⟨78, .map 3 85, 1, 8, [.nilMap]⟩,
⟨79, .slice 3, 1, 24, [wn]⟩,
⟨81, .struct [(0, 77), (1, 78), (2, 79), (3, 3)], 4, 48, [.nilMap, .nilMap, wn, w6]⟩,
⟨85, .struct [(0, 3), (1, 9), (2, 4)], 3, 32, [w6, ws, wb]⟩,
⟨87, .struct [(0, 46), (1, 9), (2, 42)], 59, 656, [.nilPtr, ws, w6, w6, ws, ws, w6, wb, wb, w6, wn, w6, wn, w6, w6, wb, wb, w6, w6, ws, ws, wb, w6, ws, wb, ws, wb, ws, wb, ws, ws, w6, wb, wn, wb, w6, wn, wn, wn, w6, wb, w6, wb, wb, wb, w6, w6, w6, w6, wb, w6, w6, w6, ws, ws, w6, w6, ws, wn]⟩,
⟨88, .func, 1, 8, [.nilFunc]⟩,
⟨89, .map 3 88, 1, 8, [.nilMap]⟩,
⟨99, .func, 1, 8, [.nilFunc]⟩,
⟨101, .struct [(0, 22), (1, 26)], 2, 16, [.nilFunc, w6]⟩,
⟨105, .slice 101, 1, 24, [wn]⟩,
⟨114, .ptr, 1, 8, [.nilPtr]⟩,
⟨120, .struct [(0, 30), (1, 40)], 17, 152, [wn, w6, wb, w6, wb, wb, wb, w6, w6, w6, w6, wb, w6, w6, w6, ws, ws]⟩,
⟨126, .struct [(0, 3), (1, 9)], 2, 24, [w6, ws]⟩,
⟨129, .func, 1, 8, [.nilFunc]⟩,
⟨134, .struct [(0, 9)], 1, 16, [ws]⟩,
⟨136, .map 3 134, 1, 8, [.nilMap]⟩,
⟨142, .slice 5, 1, 24, [wn]⟩,
⟨143, .int .u64, 1, 8, [w8]⟩,
⟨146, .iface, 1, 16, [.nilIface]⟩,
⟨157, .struct [(0, 9), (1, 3), (2, 4), (3, 4), (4, 3)], 5, 40, [ws, w6, wb, wb, w6]⟩,
⟨160, .slice 162, 1, 24, [wn]⟩,
⟨162, .struct [(0, 63), (4, 160), (5, 3), (6, 3)], 7, 96, [w6, w8, ws, wn, wn, w6, w6]⟩,
⟨169, .struct [(0, 3), (1, 3), (2, 3), (3, 3), (4, 3), (5, 4), (6, 4), (7, 4), (8, 4), (9, 4), (10, 4), (11, 4), (12, 9), (13, 9), (14, 9), (15, 9), (16, 9)], 17, 128, [w6, w6, w6, w6, w6, wb, wb, wb, wb, wb, wb, wb, ws, ws, ws, ws, ws]⟩,
⟨172, .map 3 177, 1, 8, [.nilMap]⟩,
⟨175, .array 64 3, 64, 512, List.replicate 64 w6⟩,
⟨177, .struct [(0, 3), (1, 3), (2, 52), (3, 52)], 4, 24, [w6, w6, .int .u32 (0), .int .u32 (0)]⟩,
⟨179, .func, 1, 8, [.nilFunc]⟩,
⟨185, .array 256 4, 256, 256, List.replicate 256 wb⟩,
⟨190, .struct [(0, 46), (1, 9)], 2, 24, [.nilPtr, ws]⟩,
⟨192, .struct [], 0, 0, []⟩,
⟨194, .struct [(0, 190)], 2, 24, [.nilPtr, ws]⟩,
⟨195, .struct [(0, 190)], 2, 24, [.nilPtr, ws]⟩,
⟨199, .func, 1, 8, [.nilFunc]⟩,
⟨200, .map 3 199, 1, 8, [.nilMap]⟩,
⟨204, .struct [(0, 3), (1, 3), (2, 3), (3, 4), (4, 4)], 5, 32, [w6, w6, w6, wb, wb]⟩,
⟨209, .func, 1, 8, [.nilFunc]⟩,
⟨214, .func, 1, 8, [.nilFunc]⟩,
⟨216, .func, 1, 8, [.nilFunc]⟩,
⟨224, .slice 204, 1, 24, [wn]⟩,
⟨228, .func, 1, 8, [.nilFunc]⟩,
⟨229, .func, 1, 8, [.nilFunc]⟩,
⟨230, .func, 1, 8, [.nilFunc]⟩,
⟨232, .struct [(0, 229), (1, 230)], 2, 16, [.nilFunc, .nilFunc]⟩,
⟨234, .map 3 232, 1, 8, [.nilMap]⟩,
⟨237, .struct [(0, 3), (1, 36)], 26, 320, [w6, w6, wb, wb, w6, w6, ws, ws, wb, w6, ws, wb, ws, wb, ws, wb, ws, ws, w6, wb, wn, wb, w6, wn, wn, wn]⟩,
⟨244, .array 256 5, 256, 256, List.replicate 256 w1⟩,
⟨246, .struct [(0, 5), (1, 5)], 2, 2, [w1, w1]⟩,
⟨247, .array 16 246, 32, 32, List.replicate 32 w1⟩,
⟨249, .func, 1, 8, [.nilFunc]⟩,
⟨255, .struct [(0, 3), (1, 3), (2, 3)], 3, 24, [w6, w6, w6]⟩,
⟨257, .struct [(0, 3), (1, 255), (4, 9)], 5, 48, [w6, w6, w6, w6, ws]⟩,
⟨259, .ptr, 1, 8, [.nilPtr]⟩,
⟨261, .struct [(0, 259), (1, 3), (2, 40), (18, 142), (19, 4)], 20, 176, [.nilPtr, w6, w6, wb, w6, wb, wb, wb, w6, w6, w6, w6, wb, w6, w6, w6, ws, ws, wn, wb]⟩,
⟨271, .ptr, 1, 8, [.nilPtr]⟩,
⟨272, .slice 1, 1, 24, [wn]⟩,
⟨277, .int .i64, 1, 8, [w6]⟩,
⟨290, .struct [(0, 259), (1, 3)], 2, 16, [.nilPtr, w6]⟩,
⟨293, .func, 1, 8, [.nilFunc]⟩,
⟨296, .ptr, 1, 8, [.nilPtr]⟩,
⟨315, .slice 9, 1, 24, [wn]⟩,
⟨317, .int .u64, 1, 8, [w8]⟩,
⟨321, .ptr, 1, 8, [.nilPtr]⟩,
⟨326, .struct [(0, 4), (1, 3)], 2, 16, [wb, w6]⟩,
⟨327, .slice 326, 1, 24, [wn]⟩,
⟨329, .struct [(0, 9), (1, 3), (2, 26)], 3, 32, [ws, w6, w6]⟩,
⟨337, .ptr, 1, 8, [.nilPtr]⟩,
⟨338, .struct [], 0, 0, []⟩,
⟨339, .map 3 99, 1, 8, [.nilMap]⟩,
⟨343, .slice 293, 1, 24, [wn]⟩,
⟨346, .ptr, 1, 8, [.nilPtr]⟩,
⟨353, .ptr, 1, 8, [.nilPtr]⟩,
⟨355, .struct [(0, 353), (1, 142)], 2, 32, [.nilPtr, wn]⟩,
⟨362, .array 4 61, 4, 32, [w8, w8, w8, w8]⟩,
⟨366, .ptr, 1, 8, [.nilPtr]⟩,
⟨371, .struct [(0, 3), (1, 3), (2, 4), (3, 4)], 4, 24, [w6, w6, wb, wb]⟩,
⟨372, .map 3 376, 1, 8, [.nilMap]⟩,
⟨375, .struct [(0, 259), (1, 54)], 5, 56, [.nilPtr, w6, .int .u32 (0), ws, ws]⟩,
⟨376, .func, 1, 8, [.nilFunc]⟩,
⟨377, .ptr, 1, 8, [.nilPtr]⟩,
⟨380, .ptr, 1, 8, [.nilPtr]⟩,
⟨388, .other, 1, 8, [.nilPtr]⟩]
abbrev gX := Qdb tyT [(200, 1), (371, 2)] [] []
def c3 : CFunc := Q5 (show gX f3 [] = _ from rfl)
def c4 : CFunc := Q5 (show gX f4 [] = _ from rfl)
def c5 : CFunc := Q5 (show gX f5 [] = _ from rfl)
def c6 : CFunc := Q5 (show gX f6 [] = _ from rfl)
def c7 : CFunc := Q5 (show gX f7 [] = _ from rfl)
def c8 : CFunc := Q5 (show gX f8 [] = _ from rfl)
def c9 : CFunc := Q5 (show gX f9 [] = _ from rfl)
def c10 : CFunc := Q5 (show gX f10 [] = _ from rfl)
def c11 : CFunc := Q5 (show gX f11 [] = _ from rfl)
def c12 : CFunc := Q5 (show gX f12 [] = _ from rfl)
def c13 : CFunc := Q5 (show gX f13 [] = _ from rfl)
def c14 : CFunc := Q5 (show gX f14 [] = _ from rfl)
def c15 : CFunc := Q5 (show gX f15 [] = _ from rfl)
def c16 : CFunc := Q5 (show gX f16 [] = _ from rfl)
def c17 : CFunc := Q5 (show gX f17 [] = _ from rfl)
def c18 : CFunc := Q5 (show gX f18 [false, false, true] = _ from rfl)
def c19 : CFunc := Q5 (show gX f19 [] = _ from rfl)
def c20 : CFunc := Q5 (show gX f20 [] = _ from rfl)
def c21 : CFunc := Q5 (show gX f21 [] = _ from rfl)
def c22 : CFunc := Q5 (show gX f22 [] = _ from rfl)
def c23 : CFunc := Q5 (show gX f23 [] = _ from rfl)
def c24 : CFunc := Q5 (show gX f24 [] = _ from rfl)
def c25 : CFunc := Q5 (show gX f25 [] = _ from rfl)
def c26 : CFunc := Q5 (show gX f26 [] = _ from rfl)
def c27 : CFunc := Q5 (show gX f27 [] = _ from rfl)
def c28 : CFunc := Q5 (show gX f28 [] = _ from rfl)
def c29 : CFunc := Q5 (show gX f29 [] = _ from rfl)
def c30 : CFunc := Q5 (show gX f30 [] = _ from rfl)
def c31 : CFunc := Q5 (show gX f31 [] = _ from rfl)
def c32 : CFunc := Q5 (show gX f32 [] = _ from rfl)
def c33 : CFunc := Q5 (show gX f33 [] = _ from rfl)
def c34 : CFunc := Q5 (show gX f34 [] = _ from rfl)
def c35 : CFunc := Q5 (show gX f35 [] = _ from rfl)
def c36 : CFunc := Q5 (show gX f36 [] = _ from rfl)
def c37 : CFunc := Q5 (show gX f37 [] = _ from rfl)
def c38 : CFunc := Q5 (show gX f38 [] = _ from rfl)
def c39 : CFunc := Q5 (show gX f39 [] = _ from rfl)
def c40 : CFunc := Q5 (show gX f40 [] = _ from rfl)
def c41 : CFunc := Q5 (show gX f41 [] = _ from rfl)
def c42 : CFunc := Q5 (show gX f42 [] = _ from rfl)
def c43 : CFunc := Q5 (show gX f43 [] = _ from rfl)
def c44 : CFunc := Q5 (show gX f44 [] = _ from rfl)
def c45 : CFunc := Q5 (show gX f45 [] = _ from rfl)
def c46 : CFunc := Q5 (show gX f46 [] = _ from rfl)
def c47 : CFunc := Q5 (show gX f47 [] = _ from rfl)
def c48 : CFunc := Q5 (show gX f48 [] = _ from rfl)
def c49 : CFunc := Q5 (show gX f49 [] = _ from rfl)
def c50 : CFunc := Q5 (show gX f50 [] = _ from rfl)
def c51 : CFunc := Q5 (show gX f51 [] = _ from rfl)
def c52 : CFunc := Q5 (show gX f52 [] = _ from rfl)
def c53 : CFunc := Q5 (show gX f53 [] = _ from rfl)
def c54 : CFunc := Q5 (show gX f54 [] = _ from rfl)
def c55 : CFunc := Q5 (show gX f55 [] = _ from rfl)
def c56 : CFunc := Q5 (show gX f56 [] = _ from rfl)
def c57 : CFunc := Q5 (show gX f57 [] = _ from rfl)
def c58 : CFunc := Q5 (show gX f58 [] = _ from rfl)
def c59 : CFunc := Q5 (show gX f59 [] = _ from rfl)
def c60 : CFunc := Q5 (show gX f60 [] = _ from rfl)
def c61 : CFunc := Q5 (show gX f61 [] = _ from rfl)
def c62 : CFunc := Q5 (show Qdb tyT [(200, 1), (371, 2)] [(4, [(17, 390), (46, 394), (79, 395), (353, 406)]), (7, [(79, 397)]), (13, [(114, 398)])] [] f62 [] = _ from rfl)
def c63 : CFunc := Q5 (show gX f63 [] = _ from rfl)
def c64 : CFunc := Q5 (show gX f64 [] = _ from rfl)
def c65 : CFunc := Q5 (show gX f65 [] = _ from rfl)
def c66 : CFunc := Q5 (show gX f66 [] = _ from rfl)
def c67 : CFunc := Q5 (show Qdb tyT [(200, 1), (371, 2)] [(42, [(192, 400), (194, 402), (195, 404)])] [] f67 [] = _ from rfl)
def c68 : CFunc := Q5 (show gX f68 [] = _ from rfl)
def c69 : CFunc := Q5 (show gX f69 [] = _ from rfl)
def c70 : CFunc := Q5 (show gX f70 [] = _ from rfl)
def c71 : CFunc := Q5 (show gX f71 [] = _ from rfl)
def c72 : CFunc := Q5 (show gX f72 [] = _ from rfl)
def c73 : CFunc := Q5 (show gX f73 [] = _ from rfl)
def c74 : CFunc := Q5 (show gX f74 [] = _ from rfl)
def c75 : CFunc := Q5 (show gX f75 [] = _ from rfl)
def c76 : CFunc := Q5 (show gX f76 [false, false, true, true, true] = _ from rfl)
def c77 : CFunc := Q5 (show gX f77 [] = _ from rfl)
def c78 : CFunc := Q5 (show gX f78 [] = _ from rfl)
def c79 : CFunc := Q5 (show gX f79 [] = _ from rfl)
def c80 : CFunc := Q5 (show gX f80 [] = _ from rfl)
def c81 : CFunc := Q5 (show gX f81 [] = _ from rfl)
def c82 : CFunc := Q5 (show gX f82 [] = _ from rfl)
def c83 : CFunc := Q5 (show gX f83 [] = _ from rfl)
def c84 : CFunc := Q5 (show gX f84 [] = _ from rfl)
def c85 : CFunc := Q5 (show gX f85 [] = _ from rfl)
def c86 : CFunc := Q5 (show gX f86 [] = _ from rfl)
def c87 : CFunc := Q5 (show gX f87 [] = _ from rfl)
def c88 : CFunc := Q5 (show gX f88 [] = _ from rfl)
def c89 : CFunc := Q5 (show gX f89 [] = _ from rfl)
def c90 : CFunc := Q5 (show Qdb tyT [(200, 1), (371, 2)] [(29, [(79, 396)]), (35, [(79, 396)]), (40, [(79, 397)])] [] f90 [] = _ from rfl)
def c91 : CFunc := Q5 (show gX f91 [] = _ from rfl)
def c92 : CFunc := Q5 (show gX f92 [] = _ from rfl)
def c93 : CFunc := Q5 (show gX f93 [] = _ from rfl)
def c94 : CFunc := Q5 (show gX f94 [] = _ from rfl)
def c95 : CFunc := Q5 (show gX f95 [] = _ from rfl)
def c96 : CFunc := Q5 (show gX f96 [] = _ from rfl)
def c97 : CFunc := Q5 (show gX f97 [] = _ from rfl)
def c98 : CFunc := Q5 (show gX f98 [] = _ from rfl)
def c99 : CFunc := Q5 (show gX f99 [] = _ from rfl)
def Qox : CFunc := Q5 (show gX f100 [] = _ from rfl)
def Qjn : CFunc := Q5 (show gX f101 [] = _ from rfl)
def Qmr : CFunc := Q5 (show gX f102 [] = _ from rfl)
def Qpq : CFunc := Q5 (show gX f103 [] = _ from rfl)
def Qm0 : CFunc := Q5 (show gX f104 [] = _ from rfl)
def Qoo : CFunc := Q5 (show gX f105 [] = _ from rfl)
def Qny : CFunc := Q5 (show gX f106 [] = _ from rfl)
def Ql7 : CFunc := Q5 (show gX f107 [] = _ from rfl)
def Qpt : CFunc := Q5 (show gX f108 [] = _ from rfl)
def Qs4 : CFunc := Q5 (show gX f109 [] = _ from rfl)
def Qkc : CFunc := Q5 (show gX f110 [] = _ from rfl)
def Qmi : CFunc := Q5 (show gX f111 [] = _ from rfl)
def Qmb : CFunc := Q5 (show gX f112 [] = _ from rfl)
def Ql9 : CFunc := Q5 (show gX f113 [] = _ from rfl)
def Qpn : CFunc := Q5 (show gX f114 [] = _ from rfl)
def Qo4 : CFunc := Q5 (show gX f115 [] = _ from rfl)
def Qnt : CFunc := Q5 (show gX f116 [] = _ from rfl)
def Qop : CFunc := Q5 (show gX f117 [] = _ from rfl)
def Qmx : CFunc := Q5 (show gX f118 [] = _ from rfl)
def Qly : CFunc := Q5 (show gX f119 [] = _ from rfl)
def Qqs : CFunc := Q5 (show gX f120 [false, true] = _ from rfl)
def Qqj : CFunc := Q5 (show gX f121 [] = _ from rfl)
def Qm6 : CFunc := Q5 (show gX f122 [] = _ from rfl)
def Qmn : CFunc := Q5 (show gX f123 [] = _ from rfl)
def Qm5 : CFunc := Q5 (show gX f124 [] = _ from rfl)
def Qqv : CFunc := Q5 (show gX f125 [] = _ from rfl)
def Qqc : CFunc := Q5 (show gX f126 [] = _ from rfl)
def Qni : CFunc := Q5 (show gX f127 [] = _ from rfl)
def Qp3 : CFunc := Q5 (show gX f128 [] = _ from rfl)
def Qqa : CFunc := Q5 (show gX f129 [] = _ from rfl)
def Qoc : CFunc := Q5 (show gX f130 [] = _ from rfl)
def Qo8 : CFunc := Q5 (show gX f131 [] = _ from rfl)
def Qpf : CFunc := Q5 (show gX f132 [] = _ from rfl)
def Qnk : CFunc := Q5 (show gX f133 [] = _ from rfl)
def Qlu : CFunc := Q5 (show gX f134 [] = _ from rfl)
def Qqk : CFunc := Q5 (show gX f135 [] = _ from rfl)
def Qpu : CFunc := Q5 (show gX f136 [false, true, true, false, false, true, true] = _ from rfl)
def Qo1 : CFunc := Q5 (show gX f137 [] = _ from rfl)
def Qmk : CFunc := Q5 (show gX f138 [] = _ from rfl)
def Qp7 : CFunc := Q5 (show gX f139 [] = _ from rfl)
def Qnh : CFunc := Q5 (show gX f140 [] = _ from rfl)
def Qps : CFunc := Q5 (show gX f141 [] = _ from rfl)
def Qnc : CFunc := Q5 (show gX f142 [] = _ from rfl)
def Qjt : CFunc := Q5 (show gX f143 [] = _ from rfl)
def Qrf : CFunc := Q5 (show gX f144 [] = _ from rfl)
def Qke : CFunc := Q5 (show gX f145 [] = _ from rfl)
def Qob : CFunc := Q5 (show gX f146 [] = _ from rfl)
def Ql8 : CFunc := Q5 (show gX f147 [] = _ from rfl)
def Qn7 : CFunc := Q5 (show gX f148 [] = _ from rfl)
def Qpd : CFunc := Q5 (show gX f149 [] = _ from rfl)
def Qla : CFunc := Q5 (show gX f150 [] = _ from rfl)
def Qr7 : CFunc := Q5 (show gX f151 [] = _ from rfl)
def Qmu : CFunc := Q5 (show gX f152 [] = _ from rfl)
def Qov : CFunc := Q5 (show gX f153 [] = _ from rfl)
def Qki : CFunc := Q5 (show gX f154 [] = _ from rfl)
def Qrb : CFunc := Q5 (show gX f155 [] = _ from rfl)
def Qjk : CFunc := Q5 (show gX f156 [] = _ from rfl)
def Qph : CFunc := Q5 (show gX f157 [] = _ from rfl)
def Qs9 : CFunc := Q5 (show gX f159 [] = _ from rfl)
def Qp8 : CFunc := Q5 (show gX f160 [] = _ from rfl)
def Qs1 : CFunc := Q5 (show gX f161 [] = _ from rfl)
def Qp2 : CFunc := Q5 (show gX f162 [] = _ from rfl)
def Qpm : CFunc := Q5 (show gX f163 [] = _ from rfl)
def Qp5 : CFunc := Q5 (show gX f164 [] = _ from rfl)
def Qmd : CFunc := Q5 (show gX f165 [] = _ from rfl)
def Qlw : CFunc := Q5 (show gX f166 [] = _ from rfl)
def Qro : CFunc := Q5 (show gX f167 [] = _ from rfl)
def Qnp : CFunc := Q5 (show gX f168 [] = _ from rfl)
def Qkr : CFunc := Q5 (show gX f169 [] = _ from rfl)
def Qr1 : CFunc := Q5 (show gX f170 [] = _ from rfl)
def Qn1 : CFunc := Q5 (show gX f171 [] = _ from rfl)
def Qpv : CFunc := Q5 (show gX f172 [] = _ from rfl)
def Qmt : CFunc := Q5 (show gX f173 [] = _ from rfl)
def Qql : CFunc := Q5 (show gX f174 [] = _ from rfl)
def Ql3 : CFunc := Q5 (show gX f175 [] = _ from rfl)
def Qpj : CFunc := Q5 (show gX f176 [] = _ from rfl)
def Qkx : CFunc := Q5 (show gX f177 [] = _ from rfl)
def Qky : CFunc := Q5 (show gX f178 [] = _ from rfl)
def Qre : CFunc := Q5 (show gX f179 [] = _ from rfl)
def Qp6 : CFunc := Q5 (show gX f180 [] = _ from rfl)
def Qnf : CFunc := Q5 (show gX f181 [] = _ from rfl)
def Qll : CFunc := Q5 (show gX f182 [] = _ from rfl)
def Qr6 : CFunc := Q5 (show gX f183 [] = _ from rfl)
def Qs3 : CFunc := Q5 (show gX f184 [] = _ from rfl)
def Qrn : CFunc := Q5 (show gX f185 [] = _ from rfl)
def Qri : CFunc := Q5 (show gX f186 [] = _ from rfl)
def Qqo : CFunc := Q5 (show gX f187 [] = _ from rfl)
def Qoy : CFunc := Q5 (show gX f188 [] = _ from rfl)
def Qq9 : CFunc := Q5 (show gX f189 [] = _ from rfl)
def Qmh : CFunc := Q5 (show gX f190 [] = _ from rfl)
def Qk1 : CFunc := Q5 (show gX f191 [] = _ from rfl)
def Qnz : CFunc := Q5 (show gX f192 [] = _ from rfl)
def Qns : CFunc := Q5 (show gX f193 [false, false, false, false, false, true, true, false, false, true, false, true, false, true, false, true, false, true, false, true] = _ from rfl)
def Qma : CFunc := Q5 (show gX f194 [] = _ from rfl)
def Qkn : CFunc := Q5 (show gX f195 [] = _ from rfl)
def Qqi : CFunc := Q5 (show gX f196 [] = _ from rfl)
def Qr5 : CFunc := Q5 (show gX f197 [] = _ from rfl)
def Qrd : CFunc := Q5 (show gX f198 [] = _ from rfl)
def Qra : CFunc := Q5 (show gX f199 [] = _ from rfl)
def Qrr : CFunc := Q5 (show gX f201 [] = _ from rfl)
def Qkj : CFunc := Q5 (show gX f202 [] = _ from rfl)
def Qmy : CFunc := Q5 (show gX f203 [] = _ from rfl)
def Qr4 : CFunc := Q5 (show gX f204 [] = _ from rfl)
def Qnv : CFunc := Q5 (show gX f205 [] = _ from rfl)
def Qls : CFunc := Q5 (show gX f206 [] = _ from rfl)
def Qk0 : CFunc := Q5 (show gX f207 [] = _ from rfl)
def Qod : CFunc := Q5 (show gX f208 [] = _ from rfl)
def Qqx : CFunc := Q5 (show gX f209 [false, false, false, false, false, false, true] = _ from rfl)
def Qka : CFunc := Q5 (show gX f210 [] = _ from rfl)
def Qlx : CFunc := Q5 (show gX f211 [] = _ from rfl)
def Qjl : CFunc := Q5 (show gX f212 [] = _ from rfl)
def Qkl : CFunc := Q5 (show gX f213 [] = _ from rfl)
def Qlf : CFunc := Q5 (show gX f214 [] = _ from rfl)
def Qks : CFunc := Q5 (show gX f215 [] = _ from rfl)
def Qnb : CFunc := Q5 (show gX f216 [] = _ from rfl)
def Qkw : CFunc := Q5 (show gX f217 [] = _ from rfl)
def Qq6 : CFunc := Q5 (show gX f218 [] = _ from rfl)
def Qqf : CFunc := Q5 (show gX f219 [] = _ from rfl)
def Qpg : CFunc := Q5 (show gX f220 [] = _ from rfl)
def Qs5 : CFunc := Q5 (show gX f221 [] = _ from rfl)
def Qld : CFunc := Q5 (show gX f222 [] = _ from rfl)
def Qlr : CFunc := Q5 (show gX f223 [] = _ from rfl)
def Qrz : CFunc := Q5 (show gX f224 [] = _ from rfl)
def Qqu : CFunc := Q5 (show gX f225 [] = _ from rfl)
def Qsa : CFunc := Q5 (show gX f226 [] = _ from rfl)
def Qkf : CFunc := Q5 (show gX f227 [] = _ from rfl)
def Qp0 : CFunc := Q5 (show gX f228 [] = _ from rfl)
def Qr9 : CFunc := Q5 (show gX f229 [] = _ from rfl)
def Qm4 : CFunc := Q5 (show gX f230 [] = _ from rfl)
def Qqd : CFunc := Q5 (show gX f231 [] = _ from rfl)
def Qm2 : CFunc := Q5 (show gX f232 [] = _ from rfl)
def Qku : CFunc := Q5 (show gX f233 [] = _ from rfl)
def Qm8 : CFunc := Q5 (show gX f234 [] = _ from rfl)
def Qs2 : CFunc := Q5 (show gX f235 [] = _ from rfl)
def Qn2 : CFunc := Q5 (show gX f236 [] = _ from rfl)
def Qlg : CFunc := Q5 (show gX f237 [] = _ from rfl)
def Qry : CFunc := Q5 (show gX f238 [] = _ from rfl)
def Qrw : CFunc := Q5 (show gX f239 [] = _ from rfl)
def Qr0 : CFunc := Q5 (show gX f240 [] = _ from rfl)
def Qmw : CFunc := Q5 (show gX f241 [] = _ from rfl)
def Qlj : CFunc := Q5 (show gX f242 [] = _ from rfl)
def Qoq : CFunc := Q5 (show gX f243 [] = _ from rfl)
def Qjm : CFunc := Q5 (show gX f244 [] = _ from rfl)
def Qnx : CFunc := Q5 (show gX f245 [] = _ from rfl)
def Qr8 : CFunc := Q5 (show gX f246 [] = _ from rfl)
def Qlq : CFunc := Q5 (show gX f247 [] = _ from rfl)
def Qju : CFunc := Q5 (show gX f248 [] = _ from rfl)
def Ql5 : CFunc := Q5 (show gX f249 [] = _ from rfl)
def Qqp : CFunc := Q5 (show gX f250 [] = _ from rfl)
def Qnu : CFunc := Q5 (show gX f251 [] = _ from rfl)
def Qpr : CFunc := Q5 (show gX f252 [] = _ from rfl)
def Qoh : CFunc := Q5 (show gX f253 [] = _ from rfl)
def Qjz : CFunc := Q5 (show gX f254 [] = _ from rfl)
def Qs7 : CFunc := Q5 (show gX f255 [] = _ from rfl)
def Qnm : CFunc := Q5 (show gX f256 [] = _ from rfl)
def Qmf : CFunc := Q5 (show gX f257 [] = _ from rfl)
def Qqn : CFunc := Q5 (show gX f258 [] = _ from rfl)
def Qjr : CFunc := Q5 (show gX f259 [] = _ from rfl)
def Qk6 : CFunc := Q5 (show gX f260 [] = _ from rfl)
def Qln : CFunc := Q5 (show gX f261 [] = _ from rfl)
def Qon : CFunc := Q5 (show gX f262 [] = _ from rfl)
def Qlk : CFunc := Q5 (show gX f263 [] = _ from rfl)
def Qjp : CFunc := Q5 (show gX f264 [] = _ from rfl)
def Qne : CFunc := Q5 (show gX f265 [] = _ from rfl)
def Qmp : CFunc := Q5 (show gX f266 [] = _ from rfl)
def Qn9 : CFunc := Q5 (show gX f267 [] = _ from rfl)
def Qkt : CFunc := Q5 (show gX f268 [] = _ from rfl)
def Qkh : CFunc := Q5 (show gX f269 [] = _ from rfl)
def Qr3 : CFunc := Q5 (show gX f270 [] = _ from rfl)
def Qn0 : CFunc := Q5 (show gX f271 [] = _ from rfl)
def Qoz : CFunc := Q5 (show gX f272 [] = _ from rfl)
def Qms : CFunc := Q5 (show gX f273 [] = _ from rfl)
def Qnq : CFunc := Q5 (show gX f274 [] = _ from rfl)
def Qpo : CFunc := Q5 (show gX f275 [] = _ from rfl)
def Qkd : CFunc := Q5 (show gX f276 [] = _ from rfl)
def Qqe : CFunc := Q5 (show gX f277 [] = _ from rfl)
def Qmo : CFunc := Q5 (show gX f278 [] = _ from rfl)
def Qrg : CFunc := Q5 (show gX f279 [] = _ from rfl)
def Qqg : CFunc := Q5 (show gX f280 [] = _ from rfl)
def Qnw : CFunc := Q5 (show gX f281 [] = _ from rfl)
def Qm3 : CFunc := Q5 (show gX f282 [] = _ from rfl)
def Ql1 : CFunc := Q5 (show gX f283 [] = _ from rfl)
def Qpw : CFunc := Q5 (show gX f284 [] = _ from rfl)
def Qok : CFunc := Q5 (show gX f285 [] = _ from rfl)
def Qlm : CFunc := Q5 (show gX f286 [] = _ from rfl)
def Qol : CFunc := Q5 (show gX f287 [] = _ from rfl)
def Qk7 : CFunc := Q5 (show gX f288 [] = _ from rfl)
def Qqz : CFunc := Q5 (show gX f289 [] = _ from rfl)
def Qjo : CFunc := Q5 (show gX f290 [] = _ from rfl)
def Qrm : CFunc := Q5 (show gX f291 [] = _ from rfl)
def Qrk : CFunc := Q5 (show gX f292 [] = _ from rfl)
def Qn4 : CFunc := Q5 (show gX f293 [] = _ from rfl)
def Qkp : CFunc := Q5 (show gX f294 [] = _ from rfl)
def Qrt : CFunc := Q5 (show gX f295 [] = _ from rfl)
def Qjx : CFunc := Q5 (show gX f296 [] = _ from rfl)
def Qlp : CFunc := Q5 (show gX f297 [] = _ from rfl)
def Qjs : CFunc := Q5 (show gX f298 [] = _ from rfl)
def Qrh : CFunc := Q5 (show gX f299 [] = _ from rfl)
def Qpl : CFunc := Q5 (show gX f300 [] = _ from rfl)
def Qkz : CFunc := Q5 (show gX f301 [] = _ from rfl)
def Qn6 : CFunc := Q5 (show gX f302 [] = _ from rfl)
def Qle : CFunc := Q5 (show gX f303 [] = _ from rfl)
def Qji : CFunc := Q5 (show gX f304 [] = _ from rfl)
def Qkm : CFunc := Q5 (show gX f305 [] = _ from rfl)
def Qli : CFunc := Q5 (show gX f306 [] = _ from rfl)
def Qkq : CFunc := Q5 (show gX f307 [] = _ from rfl)
def Qno : CFunc := Q5 (show gX f308 [] = _ from rfl)
def Qq2 : CFunc := Q5 (show gX f309 [] = _ from rfl)
def Qk2 : CFunc := Q5 (show gX f310 [] = _ from rfl)
def Qqb : CFunc := Q5 (show gX f311 [] = _ from rfl)
def Ql2 : CFunc := Q5 (show gX f312 [] = _ from rfl)
def Qjv : CFunc := Q5 (show gX f313 [] = _ from rfl)
def Qm7 : CFunc := Q5 (show gX f314 [] = _ from rfl)
def Qlo : CFunc := Q5 (show gX f315 [] = _ from rfl)
def Qlb : CFunc := Q5 (show gX f316 [] = _ from rfl)
def Qpc : CFunc := Q5 (show gX f317 [] = _ from rfl)
def Qqq : CFunc := Q5 (show gX f318 [] = _ from rfl)
def Qpi : CFunc := Q5 (show gX f319 [] = _ from rfl)
def Qme : CFunc := Q5 (show gX f320 [] = _ from rfl)
def Qpa : CFunc := Q5 (show gX f321 [] = _ from rfl)
def Ql4 : CFunc := Q5 (show gX f322 [] = _ from rfl)
def Qq3 : CFunc := Q5 (show gX f323 [] = _ from rfl)
def Qqm : CFunc := Q5 (show gX f324 [] = _ from rfl)
def Qmm : CFunc := Q5 (show gX f325 [] = _ from rfl)
def Qrp : CFunc := Q5 (show gX f326 [] = _ from rfl)
def Qrl : CFunc := Q5 (show gX f327 [] = _ from rfl)
def Qqt : CFunc := Q5 (show gX f328 [] = _ from rfl)
def Qna : CFunc := Q5 (show gX f329 [] = _ from rfl)
def Qp9 : CFunc := Q5 (show gX f330 [] = _ from rfl)
def Qnj : CFunc := Q5 (show gX f331 [] = _ from rfl)
def Qq4 : CFunc := Q5 (show gX f332 [] = _ from rfl)
def Qos : CFunc := Q5 (show gX f333 [] = _ from rfl)
def Qof : CFunc := Q5 (show gX f334 [] = _ from rfl)
def Qq5 : CFunc := Q5 (show gX f335 [] = _ from rfl)
def Qrs : CFunc := Q5 (show gX f336 [] = _ from rfl)
def Qs6 : CFunc := Q5 (show gX f337 [] = _ from rfl)
def Qlh : CFunc := Q5 (show gX f338 [] = _ from rfl)
def Qpb : CFunc := Q5 (show gX f339 [] = _ from rfl)
def Qq8 : CFunc := Q5 (show gX f340 [] = _ from rfl)
def Qo3 : CFunc := Q5 (show gX f341 [] = _ from rfl)
def Qpx : CFunc := Q5 (show gX f342 [] = _ from rfl)
def Qkg : CFunc := Q5 (show gX f343 [] = _ from rfl)
def Qk4 : CFunc := Q5 (show gX f344 [] = _ from rfl)
def Qqw : CFunc := Q5 (show gX f345 [] = _ from rfl)
def Qrc : CFunc := Q5 (show gX f346 [] = _ from rfl)
def Qk9 : CFunc := Q5 (show gX f347 [] = _ from rfl)
def Qng : CFunc := Q5 (show gX f348 [] = _ from rfl)
def Qoj : CFunc := Q5 (show gX f349 [] = _ from rfl)
def Qlc : CFunc := Q5 (show gX f350 [] = _ from rfl)
def Qrv : CFunc := Q5 (show gX f351 [] = _ from rfl)
def Qm1 : CFunc := Q5 (show gX f352 [] = _ from rfl)
def Qmq : CFunc := Q5 (show gX f353 [] = _ from rfl)
def Qr2 : CFunc := Q5 (show gX f354 [] = _ from rfl)
def Qoi : CFunc := Q5 (show gX f355 [] = _ from rfl)
def Qpz : CFunc := Q5 (show gX f356 [] = _ from rfl)
def Qjw : CFunc := Q5 (show gX f357 [] = _ from rfl)
def Qs0 : CFunc := Q5 (show gX f358 [] = _ from rfl)
def Qnr : CFunc := Q5 (show gX f359 [false, false, true] = _ from rfl)
def Qrq : CFunc := Q5 (show gX f360 [] = _ from rfl)
def Qow : CFunc := Q5 (show gX f361 [] = _ from rfl)
def Qpe : CFunc := Q5 (show gX f364 [] = _ from rfl)
def Qmv : CFunc := Q5 (show gX f365 [] = _ from rfl)
def Qqr : CFunc := Q5 (show gX f366 [] = _ from rfl)
def Qjy : CFunc := Q5 (show gX f367 [] = _ from rfl)
def Qk3 : CFunc := Q5 (show gX f368 [] = _ from rfl)
def Qom : CFunc := Q5 (show gX f369 [] = _ from rfl)
def Qmz : CFunc := Q5 (show gX f370 [] = _ from rfl)
def Qp1 : CFunc := Q5 (show gX f372 [] = _ from rfl)
def Qnl : CFunc := Q5 (show gX f373 [] = _ from rfl)
def Qk5 : CFunc := Q5 (show gX f374 [] = _ from rfl)
def Qo9 : CFunc := Q5 (show gX f375 [] = _ from rfl)
def Ql0 : CFunc := Q5 (show gX f376 [] = _ from rfl)
def Qs8 : CFunc := Q5 (show gX f394 [] = _ from rfl)
def Qor : CFunc := Q5 (show gX f395 [] = _ from rfl)
def Qq0 : CFunc := Q5 (show gX f396 [] = _ from rfl)
def Qog : CFunc := Q5 (show gX f397 [] = _ from rfl)
def Qml : CFunc := Q5 (show gX f398 [] = _ from rfl)
def Qmg : CFunc := Q5 (show gX f399 [] = _ from rfl)
def Qqh : CFunc := Q5 (show gX f400 [] = _ from rfl)
def Qq1 : CFunc := Q5 (show gX f402 [] = _ from rfl)
def Qnd : CFunc := Q5 (show gX f404 [] = _ from rfl)
def Ql6 : CFunc := Q5 (show gX f406 [] = _ from rfl)
def Qd2 : List (Option CFunc) := [none, none, none, some c3, some c4, some c5, some c6, some c7, some c8, some c9, some c10, some c11, some c12, some c13, some c14, some c15, some c16, some c17, some c18, some c19, some c20, some c21, some c22, some c23, some c24, some c25, some c26, some c27, some c28, some c29, some c30, some c31, some c32, some c33, some c34, some c35, some c36, some c37, some c38, some c39, some c40, some c41, some c42, some c43, some c44, some c45, some c46, some c47, some c48, some c49, some c50, some c51, some c52, some c53, some c54, some c55, some c56, some c57, some c58, some c59, some c60, some c61, some c62, some c63, some c64, some c65, some c66, some c67, some c68, some c69, some c70, some c71, some c72, some c73, some c74, some c75, some c76, some c77, some c78, some c79, some c80, some c81, some c82, some c83, some c84, some c85, some c86, some c87, some c88, some c89, some c90, some c91, some c92, some c93, some c94, some c95, some c96, some c97, some c98, some c99, some Qox, some Qjn, some Qmr, some Qpq, some Qm0, some Qoo, some Qny, some Ql7, some Qpt, some Qs4, some Qkc, some Qmi, some Qmb, some Ql9, some Qpn, some Qo4, some Qnt, some Qop, some Qmx, some Qly, some Qqs, some Qqj, some Qm6, some Qmn, some Qm5, some Qqv, some Qqc, some Qni, some Qp3, some Qqa, some Qoc, some Qo8, some Qpf, some Qnk, some Qlu, some Qqk, some Qpu, some Qo1, some Qmk, some Qp7, some Qnh, some Qps, some Qnc, some Qjt, some Qrf, some Qke, some Qob, some Ql8, some Qn7, some Qpd, some Qla, some Qr7, some Qmu, some Qov, some Qki, some Qrb, some Qjk, some Qph, none, some Qs9, some Qp8, some Qs1, some Qp2, some Qpm, some Qp5, some Qmd, some Qlw, some Qro, some Qnp, some Qkr, some Qr1, some Qn1, some Qpv, some Qmt, some Qql, some Ql3, some Qpj, some Qkx, some Qky, some Qre, some Qp6, some Qnf, some Qll, some Qr6, some Qs3, some Qrn, some Qri, some Qqo, some Qoy, some Qq9, some Qmh, some Qk1, some Qnz, some Qns, some Qma, some Qkn, some Qqi, some Qr5, some Qrd, some Qra, none, some Qrr, some Qkj, some Qmy, some Qr4, some Qnv, some Qls, some Qk0, some Qod, some Qqx, some Qka, some Qlx, some Qjl, some Qkl, some Qlf, some Qks, some Qnb, some Qkw, some Qq6, some Qqf, some Qpg, some Qs5, some Qld, some Qlr, some Qrz, some Qqu, some Qsa, some Qkf, some Qp0, some Qr9, some Qm4, some Qqd, some Qm2, some Qku, some Qm8, some Qs2, some Qn2, some Qlg, some Qry, some Qrw, some Qr0, some Qmw, some Qlj, some Qoq, some Qjm, some Qnx, some Qr8, some Qlq, some Qju, some Ql5, some Qqp, some Qnu, some Qpr, some Qoh, some Qjz, some Qs7, some Qnm, some Qmf, some Qqn, some Qjr, some Qk6, some Qln, some Qon, some Qlk, some Qjp, some Qne, some Qmp, some Qn9, some Qkt, some Qkh, some Qr3, some Qn0, some Qoz, some Qms, some Qnq, some Qpo, some Qkd, some Qqe, some Qmo, some Qrg, some Qqg, some Qnw, some Qm3, some Ql1, some Qpw, some Qok, some Qlm, some Qol, some Qk7, some Qqz, some Qjo, some Qrm, some Qrk, some Qn4, some Qkp, some Qrt, some Qjx, some Qlp, some Qjs, some Qrh, some Qpl, some Qkz, some Qn6, some Qle, some Qji, some Qkm, some Qli, some Qkq, some Qno, some Qq2, some Qk2, some Qqb, some Ql2, some Qjv, some Qm7, some Qlo, some Qlb, some Qpc, some Qqq, some Qpi, some Qme, some Qpa, some Ql4, some Qq3, some Qqm, some Qmm, some Qrp, some Qrl, some Qqt, some Qna, some Qp9, some Qnj, some Qq4, some Qos, some Qof, some Qq5, some Qrs, some Qs6, some Qlh, some Qpb, some Qq8, some Qo3, some Qpx, some Qkg, some Qk4, some Qqw, some Qrc, some Qk9, some Qng, some Qoj, some Qlc, some Qrv, some Qm1, some Qmq, some Qr2, some Qoi, some Qpz, some Qjw, some Qs0, some Qnr, some Qrq, some Qow, none, none, some Qpe, some Qmv, some Qqr, some Qjy, some Qk3, some Qom, some Qmz, none, some Qp1, some Qnl, some Qk5, some Qo9, some Ql0, none, none, none, none, none, none, none, none, none, none, none, none, none, none, none, none, none, some Qs8, some Qor, some Qq0, some Qog, some Qml, some Qmg, some Qqh, none, some Qq1, none, some Qnd, none, some Ql6]
end
end Go.Av
