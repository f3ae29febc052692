/- Part of the proof of FromsnApart: for every input the law returns true; no condition. -/
import Derived.Test.YtjhombimklaciaaGreatDoorAvGen
import Derived.Test.YtjhombimklaciaaGreatDoorProg
namespace Go.Av
open Go.Proofs.Tryz
noncomputable section
open Go.Proofs
set_option maxRecDepth 100000
abbrev w6 : PV := .int .i64 0
abbrev wb : PV := .bool false
abbrev w1 : PV := .int .u8 0
abbrev w8 : PV := .int .u64 0
abbrev ws : PV := .str []
abbrev wn : PV := .nilSlice
def tyT : List TI := [⟨1, .func, 1, 8, [.nilFunc]⟩,
⟨3, .int .i64, 1, 8, [w6]⟩,
⟨4, .bool, 1, 1, [wb]⟩,
⟨5, .int .u8, 1, 1, [w1]⟩,
⟨9, .str, 1, 16, [ws]⟩,
⟨21, .int .i32, 1, 4, [.int .i32 (0)]⟩,
⟨22, .slice 38, 1, 24, [wn]⟩,
⟨23, .slice 62, 1, 24, [wn]⟩,
⟨25, .struct [(0, 4), (1, 3), (2, 4), (3, 4), (4, 4), (5, 3)], 6, 32, [wb, w6, wb, wb, wb, w6]⟩,
⟨27, .struct [(0, 3), (1, 25), (7, 3), (8, 3), (9, 3), (10, 4), (11, 3), (12, 3), (13, 3), (14, 9), (15, 9)], 16, 128, [w6, wb, w6, wb, wb, wb, w6, w6, w6, w6, wb, w6, w6, w6, ws, ws]⟩,
⟨29, .struct [(0, 23), (1, 27)], 17, 152, [wn, w6, wb, w6, wb, wb, wb, w6, w6, w6, w6, wb, w6, w6, w6, ws, ws]⟩,
⟨33, .ptr, 1, 8, [.nilPtr]⟩,
⟨34, .ptr, 1, 8, [.nilPtr]⟩,
⟨38, .struct [(0, 9), (1, 9), (2, 3)], 3, 40, [ws, ws, w6]⟩,
⟨39, .slice 118, 1, 24, [wn]⟩,
⟨41, .struct [(0, 9), (1, 9), (2, 3), (3, 4), (4, 39)], 5, 72, [ws, ws, w6, wb, wn]⟩,
⟨42, .slice 3, 1, 24, [wn]⟩,
⟨43, .slice 139, 1, 24, [wn]⟩,
⟨45, .struct [(0, 3), (1, 4), (2, 4), (3, 3), (4, 3), (5, 9), (6, 9), (7, 4), (8, 3), (9, 9), (10, 4), (11, 9), (12, 4), (13, 9), (14, 4), (15, 41), (20, 4), (21, 3), (22, 42), (23, 43), (24, 39)], 25, 312, [w6, wb, wb, w6, w6, ws, ws, wb, w6, ws, wb, ws, wb, ws, wb, ws, ws, w6, wb, wn, wb, w6, wn, wn, wn]⟩,
⟨46, .slice 123, 1, 24, [wn]⟩,
⟨48, .struct [(0, 3), (1, 3), (2, 9), (3, 46)], 4, 56, [w6, w6, ws, wn]⟩,
⟨50, .struct [(0, 3), (1, 3), (2, 9), (3, 9), (4, 3), (5, 4), (6, 4), (7, 3), (8, 39), (9, 3), (10, 23), (11, 3), (12, 45), (37, 27), (53, 48)], 57, 632, [w6, w6, ws, ws, w6, wb, wb, w6, wn, w6, wn, w6, w6, wb, wb, w6, w6, ws, ws, wb, w6, ws, wb, ws, wb, ws, wb, ws, ws, w6, wb, wn, wb, w6, wn, wn, wn, w6, wb, w6, wb, wb, wb, w6, w6, w6, w6, wb, w6, w6, w6, ws, ws, w6, w6, ws, wn]⟩,
⟨51, .int .i64, 1, 8, [w6]⟩,
⟨62, .struct [(0, 3), (1, 9)], 2, 24, [w6, ws]⟩,
⟨69, .struct [(0, 3), (1, 3)], 2, 16, [w6, w6]⟩,
⟨80, .int .u64, 1, 8, [w8]⟩,
⟨83, .map 9 90, 1, 8, [.nilMap]⟩,
⟨85, .struct [(0, 83)], 1, 8, [.nilMap]⟩,
⟨86, .slice 132, 1, 24, [wn]⟩,
⟨88, .struct [(0, 86)], 1, 24, [wn]⟩,
⟨90, .ptr, 1, 8, [.nilPtr]⟩,
⟨92, .map 9 3, 1, 8, [.nilMap]⟩,
⟨93, .map 3 100, 1, 8, [.nilMap]⟩,
⟨94, .slice 3, 1, 24, [wn]⟩,
⟨96, .struct [(0, 92), (1, 93), (2, 94), (3, 3)], 4, 48, [.nilMap, .nilMap, wn, w6]⟩,
⟨100, .struct [(0, 3), (1, 9), (2, 4)], 3, 32, [w6, ws, wb]⟩,
⟨101, .slice 100, 1, 24, [wn]⟩,
⟨110, .struct [(0, 33), (1, 9)], 2, 24, [.nilPtr, ws]⟩,
⟨112, .struct [], 0, 0, []⟩,
⟨114, .struct [(0, 110)], 2, 24, [.nilPtr, ws]⟩,
⟨115, .struct [(0, 110)], 2, 24, [.nilPtr, ws]⟩,
⟨116, .int .u32, 1, 4, [.int .u32 (0)]⟩,
⟨118, .struct [(0, 3), (1, 116), (2, 9), (3, 9)], 4, 48, [w6, .int .u32 (0), ws, ws]⟩,
⟨123, .struct [(0, 3), (1, 80), (2, 9), (3, 46)], 4, 56, [w6, w8, ws, wn]⟩,
⟨124, .slice 5, 1, 24, [wn]⟩,
⟨125, .int .u64, 1, 8, [w8]⟩,
⟨129, .ptr, 1, 8, [.nilPtr]⟩,
⟨132, .struct [(0, 9), (1, 101)], 2, 40, [ws, wn]⟩,
⟨135, .func, 1, 8, [.nilFunc]⟩,
⟨139, .struct [(0, 9), (1, 3), (2, 4), (3, 4), (4, 3)], 5, 40, [ws, w6, wb, wb, w6]⟩,
⟨142, .iface, 1, 16, [.nilIface]⟩,
⟨153, .array 256 4, 256, 256, List.replicate 256 wb⟩,
⟨161, .ptr, 1, 8, [.nilPtr]⟩,
⟨163, .struct [(0, 161), (1, 3), (2, 27), (18, 124), (19, 4)], 20, 176, [.nilPtr, w6, w6, wb, w6, wb, wb, wb, w6, w6, w6, w6, wb, w6, w6, w6, ws, ws, wn, wb]⟩,
⟨172, .ptr, 1, 8, [.nilPtr]⟩,
⟨173, .slice 1, 1, 24, [wn]⟩,
⟨177, .slice 9, 1, 24, [wn]⟩,
⟨180, .ptr, 1, 8, [.nilPtr]⟩,
⟨182, .ptr, 1, 8, [.nilPtr]⟩,
⟨191, .struct [(0, 9), (1, 3), (2, 51)], 3, 32, [ws, w6, w6]⟩,
⟨197, .array 256 5, 256, 256, List.replicate 256 w1⟩,
⟨199, .struct [(0, 5), (1, 5)], 2, 2, [w1, w1]⟩,
⟨200, .array 16 199, 32, 32, List.replicate 32 w1⟩]
abbrev gX := Qnv tyT [(107, 1), (128, 2)] [] []
def c3 : CFunc := Yf (show gX f3 [] = _ from rfl)
def c4 : CFunc := Yf (show gX f4 [] = _ from rfl)
def c5 : CFunc := Yf (show gX f5 [] = _ from rfl)
def c6 : CFunc := Yf (show gX f6 [] = _ from rfl)
def c7 : CFunc := Yf (show gX f7 [] = _ from rfl)
def c8 : CFunc := Yf (show Qnv tyT [(107, 1), (128, 2)] [(43, [(112, 158), (114, 160), (115, 165)])] [] f8 [] = _ from rfl)
def c9 : CFunc := Yf (show gX f9 [] = _ from rfl)
def c10 : CFunc := Yf (show gX f10 [] = _ from rfl)
def c11 : CFunc := Yf (show gX f11 [] = _ from rfl)
def c12 : CFunc := Yf (show gX f12 [] = _ from rfl)
def c13 : CFunc := Yf (show gX f13 [] = _ from rfl)
def c14 : CFunc := Yf (show gX f14 [] = _ from rfl)
def c15 : CFunc := Yf (show gX f15 [] = _ from rfl)
def c16 : CFunc := Yf (show gX f16 [] = _ from rfl)
def c17 : CFunc := Yf (show gX f17 [] = _ from rfl)
def c18 : CFunc := Yf (show gX f18 [] = _ from rfl)
def c19 : CFunc := Yf (show gX f19 [] = _ from rfl)
def c20 : CFunc := Yf (show gX f20 [] = _ from rfl)
def c21 : CFunc := Yf (show gX f21 [] = _ from rfl)
def c22 : CFunc := Yf (show gX f22 [] = _ from rfl)
def c23 : CFunc := Yf (show gX f23 [] = _ from rfl)
def c24 : CFunc := Yf (show gX f24 [] = _ from rfl)
def c25 : CFunc := Yf (show gX f25 [] = _ from rfl)
def c26 : CFunc := Yf (show gX f26 [] = _ from rfl)
def c27 : CFunc := Yf (show gX f27 [] = _ from rfl)
def c28 : CFunc := Yf (show gX f28 [] = _ from rfl)
def c29 : CFunc := Yf (show gX f29 [] = _ from rfl)
def c30 : CFunc := Yf (show gX f30 [] = _ from rfl)
def c31 : CFunc := Yf (show gX f31 [] = _ from rfl)
def c32 : CFunc := Yf (show gX f32 [] = _ from rfl)
def c33 : CFunc := Yf (show gX f33 [] = _ from rfl)
def c34 : CFunc := Yf (show gX f34 [] = _ from rfl)
def c35 : CFunc := Yf (show gX f35 [] = _ from rfl)
def c36 : CFunc := Yf (show gX f36 [] = _ from rfl)
def c37 : CFunc := Yf (show gX f37 [] = _ from rfl)
def c38 : CFunc := Yf (show gX f38 [] = _ from rfl)
def c39 : CFunc := Yf (show gX f39 [] = _ from rfl)
def c40 : CFunc := Yf (show gX f40 [] = _ from rfl)
def c41 : CFunc := Yf (show gX f41 [] = _ from rfl)
def c42 : CFunc := Yf (show gX f42 [] = _ from rfl)
def c43 : CFunc := Yf (show gX f43 [] = _ from rfl)
def c44 : CFunc := Yf (show gX f44 [] = _ from rfl)
def c45 : CFunc := Yf (show gX f45 [] = _ from rfl)
def c46 : CFunc := Yf (show gX f46 [] = _ from rfl)
def c47 : CFunc := Yf (show Qnv tyT [(107, 1), (128, 2)] [(4, [(17, 146), (33, 150), (34, 152), (94, 153)]), (7, [(94, 155)]), (13, [(129, 166)])] [] f47 [] = _ from rfl)
def c48 : CFunc := Yf (show gX f48 [] = _ from rfl)
def c49 : CFunc := Yf (show gX f49 [] = _ from rfl)
def c50 : CFunc := Yf (show gX f50 [] = _ from rfl)
def c51 : CFunc := Yf (show gX f51 [] = _ from rfl)
def c52 : CFunc := Yf (show gX f52 [] = _ from rfl)
def c53 : CFunc := Yf (show gX f53 [] = _ from rfl)
def c54 : CFunc := Yf (show gX f54 [] = _ from rfl)
def c55 : CFunc := Yf (show gX f55 [] = _ from rfl)
def c56 : CFunc := Yf (show gX f56 [] = _ from rfl)
def c57 : CFunc := Yf (show gX f57 [] = _ from rfl)
def c58 : CFunc := Yf (show Qnv tyT [(107, 1), (128, 2)] [(29, [(94, 154)]), (35, [(94, 154)]), (40, [(94, 155)])] [] f58 [] = _ from rfl)
def c59 : CFunc := Yf (show gX f59 [] = _ from rfl)
def c60 : CFunc := Yf (show gX f60 [] = _ from rfl)
def c61 : CFunc := Yf (show gX f61 [] = _ from rfl)
def c62 : CFunc := Yf (show gX f62 [] = _ from rfl)
def c63 : CFunc := Yf (show gX f63 [] = _ from rfl)
def c64 : CFunc := Yf (show gX f64 [] = _ from rfl)
def c65 : CFunc := Yf (show gX f65 [] = _ from rfl)
def c66 : CFunc := Yf (show gX f66 [false, true] = _ from rfl)
def c67 : CFunc := Yf (show gX f67 [] = _ from rfl)
def c68 : CFunc := Yf (show gX f68 [] = _ from rfl)
def c69 : CFunc := Yf (show gX f69 [] = _ from rfl)
def c70 : CFunc := Yf (show gX f70 [] = _ from rfl)
def c71 : CFunc := Yf (show gX f71 [] = _ from rfl)
def c72 : CFunc := Yf (show gX f72 [false, false, false, false, false, true, true, false, false, true, false, true, false, true, false, true, false, true, false, true] = _ from rfl)
def c73 : CFunc := Yf (show gX f73 [] = _ from rfl)
def c74 : CFunc := Yf (show gX f74 [] = _ from rfl)
def c75 : CFunc := Yf (show gX f75 [] = _ from rfl)
def c76 : CFunc := Yf (show gX f76 [] = _ from rfl)
def c77 : CFunc := Yf (show gX f77 [] = _ from rfl)
def c78 : CFunc := Yf (show gX f78 [] = _ from rfl)
def c79 : CFunc := Yf (show gX f79 [] = _ from rfl)
def c80 : CFunc := Yf (show gX f80 [] = _ from rfl)
def c81 : CFunc := Yf (show gX f81 [] = _ from rfl)
def c82 : CFunc := Yf (show gX f82 [] = _ from rfl)
def c84 : CFunc := Yf (show gX f84 [] = _ from rfl)
def c85 : CFunc := Yf (show gX f85 [] = _ from rfl)
def c86 : CFunc := Yf (show gX f86 [] = _ from rfl)
def c87 : CFunc := Yf (show gX f87 [] = _ from rfl)
def c88 : CFunc := Yf (show gX f88 [] = _ from rfl)
def c89 : CFunc := Yf (show gX f89 [] = _ from rfl)
def c90 : CFunc := Yf (show gX f90 [] = _ from rfl)
def c91 : CFunc := Yf (show gX f91 [] = _ from rfl)
def c92 : CFunc := Yf (show gX f92 [] = _ from rfl)
def c93 : CFunc := Yf (show gX f93 [] = _ from rfl)
def c94 : CFunc := Yf (show gX f94 [] = _ from rfl)
def c95 : CFunc := Yf (show gX f95 [] = _ from rfl)
def c96 : CFunc := Yf (show gX f96 [] = _ from rfl)
def c97 : CFunc := Yf (show gX f97 [] = _ from rfl)
def c98 : CFunc := Yf (show gX f98 [] = _ from rfl)
def c99 : CFunc := Yf (show gX f99 [] = _ from rfl)
def Qjf : CFunc := Yf (show gX f100 [] = _ from rfl)
def Qv8 : CFunc := Yf (show gX f101 [] = _ from rfl)
def Quv : CFunc := Yf (show gX f102 [] = _ from rfl)
def Qvc : CFunc := Yf (show gX f103 [] = _ from rfl)
def Qw9 : CFunc := Yf (show gX f104 [] = _ from rfl)
def Qwe : CFunc := Yf (show gX f105 [] = _ from rfl)
def Qvn : CFunc := Yf (show gX f106 [] = _ from rfl)
def Qvh : CFunc := Yf (show gX f108 [] = _ from rfl)
def Qv1 : CFunc := Yf (show gX f109 [] = _ from rfl)
def Qwz : CFunc := Yf (show gX f110 [] = _ from rfl)
def Qx2 : CFunc := Yf (show gX f111 [] = _ from rfl)
def Qvw : CFunc := Yf (show gX f112 [] = _ from rfl)
def Qwp : CFunc := Yf (show gX f113 [] = _ from rfl)
def Qvp : CFunc := Yf (show gX f114 [] = _ from rfl)
def Qww : CFunc := Yf (show gX f115 [] = _ from rfl)
def Qvg : CFunc := Yf (show gX f116 [] = _ from rfl)
def Qwt : CFunc := Yf (show gX f117 [] = _ from rfl)
def Qwo : CFunc := Yf (show gX f118 [] = _ from rfl)
def Qvr : CFunc := Yf (show gX f119 [] = _ from rfl)
def Qvx : CFunc := Yf (show gX f120 [] = _ from rfl)
def Qwa : CFunc := Yf (show gX f121 [] = _ from rfl)
def Qwh : CFunc := Yf (show gX f122 [] = _ from rfl)
def Qwk : CFunc := Yf (show gX f123 [false, false, true] = _ from rfl)
def Qwl : CFunc := Yf (show gX f124 [] = _ from rfl)
def Quz : CFunc := Yf (show gX f125 [] = _ from rfl)
def Qwv : CFunc := Yf (show gX f126 [] = _ from rfl)
def Qve : CFunc := Yf (show gX f127 [] = _ from rfl)
def Qwc : CFunc := Yf (show gX f129 [] = _ from rfl)
def Qvj : CFunc := Yf (show gX f130 [] = _ from rfl)
def Qw7 : CFunc := Yf (show gX f131 [] = _ from rfl)
def Qvi : CFunc := Yf (show gX f132 [] = _ from rfl)
def Qv2 : CFunc := Yf (show gX f150 [] = _ from rfl)
def Qv9 : CFunc := Yf (show gX f152 [] = _ from rfl)
def Qx1 : CFunc := Yf (show gX f153 [] = _ from rfl)
def Qvv : CFunc := Yf (show gX f154 [] = _ from rfl)
def Qvs : CFunc := Yf (show gX f155 [] = _ from rfl)
def Qx0 : CFunc := Yf (show gX f158 [] = _ from rfl)
def Qwy : CFunc := Yf (show gX f160 [] = _ from rfl)
def Qwu : CFunc := Yf (show gX f161 [] = _ from rfl)
def Qwx : CFunc := Yf (show gX f162 [] = _ from rfl)
def Qwb : CFunc := Yf (show gX f163 [] = _ from rfl)
def Qvd : CFunc := Yf (show gX f165 [] = _ from rfl)
def Qvt : CFunc := Yf (show gX f166 [] = _ from rfl)
def Qt7 : List (Option CFunc) := [none, none, none, some c3, some c4, some c5, some c6, some c7, some c8, some c9, some c10, some c11, some c12, some c13, some c14, some c15, some c16, some c17, some c18, some c19, some c20, some c21, some c22, some c23, some c24, some c25, some c26, some c27, some c28, some c29, some c30, some c31, some c32, some c33, some c34, some c35, some c36, some c37, some c38, some c39, some c40, some c41, some c42, some c43, some c44, some c45, some c46, some c47, some c48, some c49, some c50, some c51, some c52, some c53, some c54, some c55, some c56, some c57, some c58, some c59, some c60, some c61, some c62, some c63, some c64, some c65, some c66, some c67, some c68, some c69, some c70, some c71, some c72, some c73, some c74, some c75, some c76, some c77, some c78, some c79, some c80, some c81, some c82, none, some c84, some c85, some c86, some c87, some c88, some c89, some c90, some c91, some c92, some c93, some c94, some c95, some c96, some c97, some c98, some c99, some Qjf, some Qv8, some Quv, some Qvc, some Qw9, some Qwe, some Qvn, none, some Qvh, some Qv1, some Qwz, some Qx2, some Qvw, some Qwp, some Qvp, some Qww, some Qvg, some Qwt, some Qwo, some Qvr, some Qvx, some Qwa, some Qwh, some Qwk, some Qwl, some Quz, some Qwv, some Qve, none, some Qwc, some Qvj, some Qw7, some Qvi, none, none, none, none, none, none, none, none, none, none, none, none, none, none, none, none, none, some Qv2, none, some Qv9, some Qx1, some Qvv, some Qvs, none, none, some Qx0, none, some Qwy, some Qwu, some Qwx, some Qwb, none, some Qvd, some Qvt]
end
end Go.Av
