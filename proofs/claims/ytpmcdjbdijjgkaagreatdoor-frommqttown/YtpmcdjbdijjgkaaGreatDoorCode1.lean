/- Part of the proof of FrommqttOwn: for every input the law returns true; no condition. -/
import Derived.Test.YtpmcdjbdijjgkaaGreatDoorAvGen
import Derived.Test.YtpmcdjbdijjgkaaGreatDoorProg
namespace Go.Av
open Go.Proofs.Tryz
noncomputable section
open Go.Proofs
set_option maxRecDepth 100000
abbrev w6 : PV := .int .i64 0
abbrev wb : PV := .bool false
abbrev w1 : PV := .int .u8 0
abbrev w8 : PV := .int .u64 0
abbrev ws : PV := .str []
abbrev wn : PV := .nilSlice
def tyT : List TI := [⟨3, .int .i64, 1, 8, [w6]⟩,
⟨4, .bool, 1, 1, [wb]⟩,
⟨5, .int .u8, 1, 1, [w1]⟩,
⟨9, .str, 1, 16, [ws]⟩,
⟨21, .int .i32, 1, 4, [.int .i32 (0)]⟩,
⟨22, .slice 48, 1, 24, [wn]⟩,
⟨24, .struct [(0, 9), (1, 9), (2, 3), (3, 4), (4, 22)], 5, 72, [ws, ws, w6, wb, wn]⟩,
⟨25, .slice 3, 1, 24, [wn]⟩,
⟨26, .slice 50, 1, 24, [wn]⟩,
⟨28, .struct [(0, 3), (1, 4), (2, 4), (3, 3), (4, 3), (5, 9), (6, 9), (7, 4), (8, 3), (9, 9), (10, 4), (11, 9), (12, 4), (13, 9), (14, 4), (15, 24), (20, 4), (21, 3), (22, 25), (23, 26), (24, 22)], 25, 312, [w6, wb, wb, w6, w6, ws, ws, wb, w6, ws, wb, ws, wb, ws, wb, ws, ws, w6, wb, wn, wb, w6, wn, wn, wn]⟩,
⟨32, .slice 70, 1, 24, [wn]⟩,
⟨34, .struct [(0, 4), (1, 3), (2, 4), (3, 4), (4, 4), (5, 3)], 6, 32, [wb, w6, wb, wb, wb, w6]⟩,
⟨36, .struct [(0, 3), (1, 34), (7, 3), (8, 3), (9, 3), (10, 4), (11, 3), (12, 3), (13, 3), (14, 9), (15, 9)], 16, 128, [w6, wb, w6, wb, wb, wb, w6, w6, w6, w6, wb, w6, w6, w6, ws, ws]⟩,
⟨37, .slice 73, 1, 24, [wn]⟩,
⟨39, .struct [(0, 3), (1, 3), (2, 9), (3, 37)], 4, 56, [w6, w6, ws, wn]⟩,
⟨41, .struct [(0, 3), (1, 3), (2, 9), (3, 9), (4, 3), (5, 4), (6, 4), (7, 3), (8, 22), (9, 3), (10, 32), (11, 3), (12, 28), (37, 36), (53, 39)], 57, 632, [w6, w6, ws, ws, w6, wb, wb, w6, wn, w6, wn, w6, w6, wb, wb, w6, w6, ws, ws, wb, w6, ws, wb, ws, wb, ws, wb, ws, ws, w6, wb, wn, wb, w6, wn, wn, wn, w6, wb, w6, wb, wb, wb, w6, w6, w6, w6, wb, w6, w6, w6, ws, ws, w6, w6, ws, wn]⟩,
⟨42, .int .i64, 1, 8, [w6]⟩,
⟨46, .int .u32, 1, 4, [.int .u32 (0)]⟩,
⟨48, .struct [(0, 3), (1, 46), (2, 9), (3, 9)], 4, 48, [w6, .int .u32 (0), ws, ws]⟩,
⟨50, .struct [(0, 9), (1, 3), (2, 4), (3, 4), (4, 3)], 5, 40, [ws, w6, wb, wb, w6]⟩,
⟨70, .struct [(0, 3), (1, 9)], 2, 24, [w6, ws]⟩,
⟨71, .int .u64, 1, 8, [w8]⟩,
⟨73, .struct [(0, 3), (1, 71), (2, 9), (3, 37)], 4, 56, [w6, w8, ws, wn]⟩,
⟨76, .func, 1, 8, [.nilFunc]⟩,
⟨77, .func, 1, 8, [.nilFunc]⟩,
⟨79, .struct [(0, 76), (1, 77)], 2, 16, [.nilFunc, .nilFunc]⟩,
⟨81, .map 3 79, 1, 8, [.nilMap]⟩,
⟨84, .struct [(0, 3), (1, 28)], 26, 320, [w6, w6, wb, wb, w6, w6, ws, ws, wb, w6, ws, wb, ws, wb, ws, wb, ws, ws, w6, wb, wn, wb, w6, wn, wn, wn]⟩,
⟨90, .struct [(0, 3), (1, 3), (2, 3)], 3, 24, [w6, w6, w6]⟩,
⟨92, .struct [(0, 3), (1, 90), (4, 9)], 5, 48, [w6, w6, w6, w6, ws]⟩,
⟨100, .func, 1, 8, [.nilFunc]⟩,
⟨101, .ptr, 1, 8, [.nilPtr]⟩,
⟨104, .struct [(0, 101), (1, 3)], 2, 16, [.nilPtr, w6]⟩,
⟨107, .func, 1, 8, [.nilFunc]⟩,
⟨109, .func, 1, 8, [.nilFunc]⟩,
⟨112, .ptr, 1, 8, [.nilPtr]⟩,
⟨114, .slice 5, 1, 24, [wn]⟩,
⟨131, .int .u64, 1, 8, [w8]⟩,
⟨135, .slice 9, 1, 24, [wn]⟩,
⟨137, .struct [(0, 4), (1, 3)], 2, 16, [wb, w6]⟩,
⟨138, .slice 137, 1, 24, [wn]⟩,
⟨140, .struct [(0, 9), (1, 3), (2, 42)], 3, 32, [ws, w6, w6]⟩,
⟨142, .map 3 147, 1, 8, [.nilMap]⟩,
⟨145, .array 64 3, 64, 512, List.replicate 64 w6⟩,
⟨147, .struct [(0, 3), (1, 3), (2, 46), (3, 46)], 4, 24, [w6, w6, .int .u32 (0), .int .u32 (0)]⟩,
⟨158, .ptr, 1, 8, [.nilPtr]⟩,
⟨160, .struct [], 0, 0, []⟩,
⟨161, .map 3 100, 1, 8, [.nilMap]⟩,
⟨166, .slice 107, 1, 24, [wn]⟩,
⟨170, .ptr, 1, 8, [.nilPtr]⟩,
⟨172, .struct [(0, 170), (1, 114)], 2, 32, [.nilPtr, wn]⟩,
⟨179, .array 4 71, 4, 32, [w8, w8, w8, w8]⟩,
⟨182, .struct [(0, 3), (1, 3), (2, 3), (3, 3), (4, 3), (5, 4), (6, 4), (7, 4), (8, 4), (9, 4), (10, 4), (11, 4), (12, 9), (13, 9), (14, 9), (15, 9), (16, 9)], 17, 128, [w6, w6, w6, w6, w6, wb, wb, wb, wb, wb, wb, wb, ws, ws, ws, ws, ws]⟩,
⟨191, .ptr, 1, 8, [.nilPtr]⟩,
⟨196, .struct [(0, 3), (1, 3), (2, 4), (3, 4)], 4, 24, [w6, w6, wb, wb]⟩,
⟨197, .map 3 201, 1, 8, [.nilMap]⟩,
⟨200, .struct [(0, 101), (1, 48)], 5, 56, [.nilPtr, w6, .int .u32 (0), ws, ws]⟩,
⟨201, .func, 1, 8, [.nilFunc]⟩,
⟨202, .ptr, 1, 8, [.nilPtr]⟩,
⟨205, .ptr, 1, 8, [.nilPtr]⟩,
⟨210, .func, 1, 8, [.nilFunc]⟩,
⟨212, .func, 1, 8, [.nilFunc]⟩,
⟨221, .array 256 4, 256, 256, List.replicate 256 wb⟩,
⟨225, .other, 1, 8, [.nilPtr]⟩,
⟨237, .array 256 5, 256, 256, List.replicate 256 w1⟩,
⟨239, .struct [(0, 5), (1, 5)], 2, 2, [w1, w1]⟩,
⟨240, .array 16 239, 32, 32, List.replicate 32 w1⟩]
abbrev gX := Qqi tyT [(213, 2), (215, 1)] [] []
def c3 : CFunc := Qu (show gX f3 [] = _ from rfl)
def c4 : CFunc := Qu (show gX f4 [] = _ from rfl)
def c5 : CFunc := Qu (show gX f5 [] = _ from rfl)
def c6 : CFunc := Qu (show gX f6 [] = _ from rfl)
def c7 : CFunc := Qu (show gX f7 [] = _ from rfl)
def c8 : CFunc := Qu (show gX f8 [] = _ from rfl)
def c9 : CFunc := Qu (show gX f9 [] = _ from rfl)
def c10 : CFunc := Qu (show gX f10 [] = _ from rfl)
def c11 : CFunc := Qu (show gX f11 [] = _ from rfl)
def c12 : CFunc := Qu (show gX f12 [] = _ from rfl)
def c13 : CFunc := Qu (show gX f13 [] = _ from rfl)
def c14 : CFunc := Qu (show gX f14 [] = _ from rfl)
def c15 : CFunc := Qu (show gX f15 [] = _ from rfl)
def c16 : CFunc := Qu (show gX f16 [] = _ from rfl)
def c17 : CFunc := Qu (show gX f17 [] = _ from rfl)
def c18 : CFunc := Qu (show gX f18 [] = _ from rfl)
def c19 : CFunc := Qu (show gX f19 [] = _ from rfl)
def c20 : CFunc := Qu (show gX f20 [] = _ from rfl)
def c21 : CFunc := Qu (show gX f21 [] = _ from rfl)
def c22 : CFunc := Qu (show gX f22 [false, true, true, false, false, true, true] = _ from rfl)
def c23 : CFunc := Qu (show gX f23 [] = _ from rfl)
def c24 : CFunc := Qu (show gX f24 [] = _ from rfl)
def c25 : CFunc := Qu (show gX f25 [] = _ from rfl)
def c26 : CFunc := Qu (show gX f26 [] = _ from rfl)
def c27 : CFunc := Qu (show gX f27 [] = _ from rfl)
def c28 : CFunc := Qu (show gX f28 [] = _ from rfl)
def c29 : CFunc := Qu (show gX f29 [] = _ from rfl)
def c30 : CFunc := Qu (show gX f30 [] = _ from rfl)
def c31 : CFunc := Qu (show gX f31 [] = _ from rfl)
def c32 : CFunc := Qu (show gX f32 [] = _ from rfl)
def c33 : CFunc := Qu (show gX f33 [] = _ from rfl)
def c34 : CFunc := Qu (show gX f34 [] = _ from rfl)
def c35 : CFunc := Qu (show gX f35 [] = _ from rfl)
def c36 : CFunc := Qu (show gX f36 [] = _ from rfl)
def c37 : CFunc := Qu (show gX f37 [] = _ from rfl)
def c38 : CFunc := Qu (show gX f38 [] = _ from rfl)
def c39 : CFunc := Qu (show gX f39 [] = _ from rfl)
def c40 : CFunc := Qu (show gX f40 [] = _ from rfl)
def c41 : CFunc := Qu (show gX f41 [] = _ from rfl)
def c42 : CFunc := Qu (show gX f42 [] = _ from rfl)
def c43 : CFunc := Qu (show gX f43 [] = _ from rfl)
def c44 : CFunc := Qu (show gX f44 [] = _ from rfl)
def c45 : CFunc := Qu (show gX f45 [false, false, false, false, false, false, true] = _ from rfl)
def c46 : CFunc := Qu (show gX f46 [] = _ from rfl)
def c47 : CFunc := Qu (show gX f47 [] = _ from rfl)
def c48 : CFunc := Qu (show gX f48 [] = _ from rfl)
def c49 : CFunc := Qu (show gX f49 [] = _ from rfl)
def c50 : CFunc := Qu (show gX f50 [] = _ from rfl)
def c51 : CFunc := Qu (show gX f51 [] = _ from rfl)
def c52 : CFunc := Qu (show gX f52 [] = _ from rfl)
def c53 : CFunc := Qu (show gX f53 [] = _ from rfl)
def c54 : CFunc := Qu (show gX f54 [] = _ from rfl)
def c55 : CFunc := Qu (show gX f55 [] = _ from rfl)
def c56 : CFunc := Qu (show gX f56 [] = _ from rfl)
def c57 : CFunc := Qu (show gX f57 [] = _ from rfl)
def c58 : CFunc := Qu (show gX f58 [] = _ from rfl)
def c59 : CFunc := Qu (show gX f59 [] = _ from rfl)
def c60 : CFunc := Qu (show gX f60 [] = _ from rfl)
def c61 : CFunc := Qu (show gX f61 [] = _ from rfl)
def c62 : CFunc := Qu (show gX f62 [] = _ from rfl)
def c63 : CFunc := Qu (show gX f63 [] = _ from rfl)
def c64 : CFunc := Qu (show gX f64 [] = _ from rfl)
def c65 : CFunc := Qu (show gX f65 [] = _ from rfl)
def c66 : CFunc := Qu (show gX f66 [] = _ from rfl)
def c67 : CFunc := Qu (show gX f67 [] = _ from rfl)
def c68 : CFunc := Qu (show gX f68 [] = _ from rfl)
def c69 : CFunc := Qu (show gX f69 [] = _ from rfl)
def c70 : CFunc := Qu (show gX f70 [] = _ from rfl)
def c71 : CFunc := Qu (show gX f71 [] = _ from rfl)
def c72 : CFunc := Qu (show gX f72 [] = _ from rfl)
def c73 : CFunc := Qu (show gX f73 [] = _ from rfl)
def c74 : CFunc := Qu (show gX f74 [] = _ from rfl)
def c75 : CFunc := Qu (show gX f75 [] = _ from rfl)
def c76 : CFunc := Qu (show gX f76 [] = _ from rfl)
def c77 : CFunc := Qu (show gX f77 [] = _ from rfl)
def c78 : CFunc := Qu (show gX f78 [] = _ from rfl)
def c79 : CFunc := Qu (show gX f79 [] = _ from rfl)
def c80 : CFunc := Qu (show gX f80 [] = _ from rfl)
def c81 : CFunc := Qu (show gX f81 [] = _ from rfl)
def c82 : CFunc := Qu (show gX f82 [] = _ from rfl)
def c83 : CFunc := Qu (show gX f83 [] = _ from rfl)
def c84 : CFunc := Qu (show gX f84 [] = _ from rfl)
def c85 : CFunc := Qu (show gX f85 [] = _ from rfl)
def c86 : CFunc := Qu (show gX f86 [] = _ from rfl)
def c87 : CFunc := Qu (show gX f87 [] = _ from rfl)
def c88 : CFunc := Qu (show gX f88 [] = _ from rfl)
def c89 : CFunc := Qu (show gX f89 [] = _ from rfl)
def c90 : CFunc := Qu (show gX f90 [] = _ from rfl)
def c91 : CFunc := Qu (show gX f91 [] = _ from rfl)
def c92 : CFunc := Qu (show gX f92 [] = _ from rfl)
def c93 : CFunc := Qu (show gX f93 [] = _ from rfl)
def c94 : CFunc := Qu (show gX f94 [] = _ from rfl)
def c95 : CFunc := Qu (show gX f95 [] = _ from rfl)
def c96 : CFunc := Qu (show gX f96 [] = _ from rfl)
def c97 : CFunc := Qu (show gX f97 [] = _ from rfl)
def c98 : CFunc := Qu (show gX f98 [] = _ from rfl)
def c99 : CFunc := Qu (show gX f99 [] = _ from rfl)
def Que : CFunc := Qu (show gX f100 [] = _ from rfl)
def Qwh : CFunc := Qu (show gX f101 [] = _ from rfl)
def Qtn : CFunc := Qu (show gX f102 [] = _ from rfl)
def Qrf : CFunc := Qu (show gX f103 [] = _ from rfl)
def Qtz : CFunc := Qu (show gX f104 [] = _ from rfl)
def Qsz : CFunc := Qu (show gX f105 [] = _ from rfl)
def Qvv : CFunc := Qu (show gX f106 [] = _ from rfl)
def Qvh : CFunc := Qu (show gX f107 [] = _ from rfl)
def Qrm : CFunc := Qu (show gX f108 [] = _ from rfl)
def Qr9 : CFunc := Qu (show gX f109 [] = _ from rfl)
def Qwd : CFunc := Qu (show gX f110 [] = _ from rfl)
def Qsx : CFunc := Qu (show gX f111 [] = _ from rfl)
def Quz : CFunc := Qu (show gX f112 [] = _ from rfl)
def Quq : CFunc := Qu (show gX f113 [] = _ from rfl)
def Qsk : CFunc := Qu (show gX f114 [] = _ from rfl)
def Qup : CFunc := Qu (show gX f115 [] = _ from rfl)
def Qvz : CFunc := Qu (show gX f116 [] = _ from rfl)
def Qsh : CFunc := Qu (show gX f117 [] = _ from rfl)
def Qto : CFunc := Qu (show gX f118 [] = _ from rfl)
def Qsu : CFunc := Qu (show gX f119 [] = _ from rfl)
def Qty : CFunc := Qu (show gX f120 [] = _ from rfl)
def Qsi : CFunc := Qu (show gX f121 [] = _ from rfl)
def Qtr : CFunc := Qu (show gX f122 [] = _ from rfl)
def Qr1 : CFunc := Qu (show gX f123 [] = _ from rfl)
def Qrb : CFunc := Qu (show gX f124 [] = _ from rfl)
def Qtt : CFunc := Qu (show gX f125 [] = _ from rfl)
def Quo : CFunc := Qu (show gX f126 [] = _ from rfl)
def Qum : CFunc := Qu (show gX f127 [] = _ from rfl)
def Qso : CFunc := Qu (show gX f128 [] = _ from rfl)
def Qvp : CFunc := Qu (show gX f129 [] = _ from rfl)
def Qrz : CFunc := Qu (show gX f130 [] = _ from rfl)
def Qu8 : CFunc := Qu (show gX f131 [] = _ from rfl)
def Qts : CFunc := Qu (show gX f132 [] = _ from rfl)
def Qrg : CFunc := Qu (show gX f133 [] = _ from rfl)
def Qu7 : CFunc := Qu (show gX f134 [] = _ from rfl)
def Qsg : CFunc := Qu (show gX f135 [] = _ from rfl)
def Qry : CFunc := Qu (show gX f136 [] = _ from rfl)
def Quc : CFunc := Qu (show gX f137 [] = _ from rfl)
def Qvu : CFunc := Qu (show gX f138 [] = _ from rfl)
def Qva : CFunc := Qu (show gX f139 [] = _ from rfl)
def Qu1 : CFunc := Qu (show gX f140 [] = _ from rfl)
def Qv4 : CFunc := Qu (show gX f141 [] = _ from rfl)
def Qwe : CFunc := Qu (show gX f142 [] = _ from rfl)
def Qtc : CFunc := Qu (show gX f143 [] = _ from rfl)
def Qwb : CFunc := Qu (show gX f144 [] = _ from rfl)
def Qv3 : CFunc := Qu (show gX f145 [] = _ from rfl)
def Qrr : CFunc := Qu (show gX f146 [] = _ from rfl)
def Qre : CFunc := Qu (show gX f147 [] = _ from rfl)
def Qtv : CFunc := Qu (show gX f148 [] = _ from rfl)
def Qsj : CFunc := Qu (show gX f149 [] = _ from rfl)
def Qt3 : CFunc := Qu (show gX f150 [] = _ from rfl)
def Qsb : CFunc := Qu (show gX f151 [] = _ from rfl)
def Qst : CFunc := Qu (show gX f152 [] = _ from rfl)
def Qsa : CFunc := Qu (show gX f153 [] = _ from rfl)
def Qsd : CFunc := Qu (show gX f154 [] = _ from rfl)
def Qw0 : CFunc := Qu (show gX f155 [] = _ from rfl)
def Qro : CFunc := Qu (show gX f156 [] = _ from rfl)
def Qu3 : CFunc := Qu (show gX f157 [] = _ from rfl)
def Qqx : CFunc := Qu (show gX f158 [] = _ from rfl)
def Qvq : CFunc := Qu (show gX f159 [] = _ from rfl)
def Qv6 : CFunc := Qu (show gX f160 [] = _ from rfl)
def Qrc : CFunc := Qu (show gX f161 [] = _ from rfl)
def Qs2 : CFunc := Qu (show gX f162 [] = _ from rfl)
def Qwa : CFunc := Qu (show gX f163 [] = _ from rfl)
def Qvd : CFunc := Qu (show gX f164 [] = _ from rfl)
def Qt7 : CFunc := Qu (show gX f165 [] = _ from rfl)
def Qwc : CFunc := Qu (show gX f166 [] = _ from rfl)
def Qr8 : CFunc := Qu (show gX f167 [] = _ from rfl)
def Qur : CFunc := Qu (show gX f168 [] = _ from rfl)
def Qs3 : CFunc := Qu (show gX f169 [] = _ from rfl)
def Qth : CFunc := Qu (show gX f170 [] = _ from rfl)
def Qwi : CFunc := Qu (show gX f171 [] = _ from rfl)
def Qt8 : CFunc := Qu (show gX f172 [] = _ from rfl)
def Qrt : CFunc := Qu (show gX f173 [] = _ from rfl)
def Quu : CFunc := Qu (show gX f174 [] = _ from rfl)
def Qt0 : CFunc := Qu (show gX f175 [] = _ from rfl)
def Qtu : CFunc := Qu (show gX f176 [] = _ from rfl)
def Qsc : CFunc := Qu (show gX f177 [] = _ from rfl)
def Qui : CFunc := Qu (show gX f178 [] = _ from rfl)
def Qu4 : CFunc := Qu (show gX f179 [] = _ from rfl)
def Qt1 : CFunc := Qu (show gX f180 [] = _ from rfl)
def Qr0 : CFunc := Qu (show gX f181 [] = _ from rfl)
def Qsp : CFunc := Qu (show gX f182 [] = _ from rfl)
def Qri : CFunc := Qu (show gX f183 [] = _ from rfl)
def Qrv : CFunc := Qu (show gX f184 [] = _ from rfl)
def Qrh : CFunc := Qu (show gX f185 [] = _ from rfl)
def Qtq : CFunc := Qu (show gX f186 [] = _ from rfl)
def Qw3 : CFunc := Qu (show gX f187 [] = _ from rfl)
def Qul : CFunc := Qu (show gX f188 [] = _ from rfl)
def Qse : CFunc := Qu (show gX f189 [false, true] = _ from rfl)
def Qtg : CFunc := Qu (show gX f190 [] = _ from rfl)
def Qtw : CFunc := Qu (show gX f191 [] = _ from rfl)
def Quv : CFunc := Qu (show gX f192 [] = _ from rfl)
def Qr3 : CFunc := Qu (show gX f195 [] = _ from rfl)
def Quf : CFunc := Qu (show gX f196 [] = _ from rfl)
def Qqw : CFunc := Qu (show gX f197 [] = _ from rfl)
def Qrk : CFunc := Qu (show gX f198 [] = _ from rfl)
def Qr7 : CFunc := Qu (show gX f199 [] = _ from rfl)
def Qv0 : CFunc := Qu (show gX f200 [] = _ from rfl)
def Qtp : CFunc := Qu (show gX f201 [] = _ from rfl)
def Qw7 : CFunc := Qu (show gX f202 [] = _ from rfl)
def Qtl : CFunc := Qu (show gX f203 [] = _ from rfl)
def Qvx : CFunc := Qu (show gX f205 [false, false, true] = _ from rfl)
def Qvf : CFunc := Qu (show gX f206 [] = _ from rfl)
def Qwg : CFunc := Qu (show gX f207 [] = _ from rfl)
def Qqy : CFunc := Qu (show gX f208 [] = _ from rfl)
def Qsv : CFunc := Qu (show gX f209 [] = _ from rfl)
def Qw4 : CFunc := Qu (show gX f210 [] = _ from rfl)
def Quj : CFunc := Qu (show gX f211 [] = _ from rfl)
def Qu9 : CFunc := Qu (show gX f212 [] = _ from rfl)
def Qs0 : CFunc := Qu (show gX f214 [] = _ from rfl)
def Qud : CFunc := Qu (show gX f216 [] = _ from rfl)
def Qw8 : CFunc := Qu (show gX f217 [] = _ from rfl)
def Qoz : List (Option CFunc) := [none, none, none, some c3, some c4, some c5, some c6, some c7, some c8, some c9, some c10, some c11, some c12, some c13, some c14, some c15, some c16, some c17, some c18, some c19, some c20, some c21, some c22, some c23, some c24, some c25, some c26, some c27, some c28, some c29, some c30, some c31, some c32, some c33, some c34, some c35, some c36, some c37, some c38, some c39, some c40, some c41, some c42, some c43, some c44, some c45, some c46, some c47, some c48, some c49, some c50, some c51, some c52, some c53, some c54, some c55, some c56, some c57, some c58, some c59, some c60, some c61, some c62, some c63, some c64, some c65, some c66, some c67, some c68, some c69, some c70, some c71, some c72, some c73, some c74, some c75, some c76, some c77, some c78, some c79, some c80, some c81, some c82, some c83, some c84, some c85, some c86, some c87, some c88, some c89, some c90, some c91, some c92, some c93, some c94, some c95, some c96, some c97, some c98, some c99, some Que, some Qwh, some Qtn, some Qrf, some Qtz, some Qsz, some Qvv, some Qvh, some Qrm, some Qr9, some Qwd, some Qsx, some Quz, some Quq, some Qsk, some Qup, some Qvz, some Qsh, some Qto, some Qsu, some Qty, some Qsi, some Qtr, some Qr1, some Qrb, some Qtt, some Quo, some Qum, some Qso, some Qvp, some Qrz, some Qu8, some Qts, some Qrg, some Qu7, some Qsg, some Qry, some Quc, some Qvu, some Qva, some Qu1, some Qv4, some Qwe, some Qtc, some Qwb, some Qv3, some Qrr, some Qre, some Qtv, some Qsj, some Qt3, some Qsb, some Qst, some Qsa, some Qsd, some Qw0, some Qro, some Qu3, some Qqx, some Qvq, some Qv6, some Qrc, some Qs2, some Qwa, some Qvd, some Qt7, some Qwc, some Qr8, some Qur, some Qs3, some Qth, some Qwi, some Qt8, some Qrt, some Quu, some Qt0, some Qtu, some Qsc, some Qui, some Qu4, some Qt1, some Qr0, some Qsp, some Qri, some Qrv, some Qrh, some Qtq, some Qw3, some Qul, some Qse, some Qtg, some Qtw, some Quv, none, none, some Qr3, some Quf, some Qqw, some Qrk, some Qr7, some Qv0, some Qtp, some Qw7, some Qtl, none, some Qvx, some Qvf, some Qwg, some Qqy, some Qsv, some Qw4, some Quj, some Qu9, none, some Qs0, none, some Qud, some Qw8]
end
end Go.Av
