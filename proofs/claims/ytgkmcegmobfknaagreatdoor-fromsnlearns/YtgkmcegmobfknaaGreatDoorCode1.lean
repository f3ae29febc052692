/- Part of FromsnLearns: the law returns true; no condition. -/
import Derived.Test.YtgkmcegmobfknaaGreatDoorAvGen
import Derived.Test.YtgkmcegmobfknaaGreatDoorProg
set_option linter.all false
namespace Go.Av
open Go.Proofs.Tryz
noncomputable section
open Go.Proofs
set_option maxRecDepth 100000
abbrev w6:PV := .int .i64 0
abbrev wb:PV := .bool false
abbrev w1:PV := .int .u8 0
abbrev w8:PV := .int .u64 0
abbrev ws:PV := .str []
abbrev wn:PV := .nilSlice
def tyT:List TI := [⟨1,.func,1,8,[.nilFunc]⟩,
⟨3,.int .i64,1,8,[w6]⟩,
⟨4,.bool,1,1,[wb]⟩,
⟨5,.int .u8,1,1,[w1]⟩,
⟨9,.str,1,16,[ws]⟩,
⟨20,.iface,1,16,[.nilIface]⟩,
⟨21,.int .i32,1,4,[.int .i32 (0)]⟩,
⟨22,.slice 66,1,24,[wn]⟩,
⟨24,.struct [(0,4),(1,3),(2,4),(3,4),(4,4),(5,3)],6,32,[wb,w6,wb,wb,wb,w6]⟩,
⟨26,.struct [(0,3),(1,24),(7,3),(8,3),(9,3),(10,4),(11,3),(12,3),(13,3),(14,9),(15,9)],16,128,[w6,wb,w6,wb,wb,wb,w6,w6,w6,w6,wb,w6,w6,w6,ws,ws]⟩,
⟨30,.ptr,1,8,[.nilPtr]⟩,
⟨31,.ptr,1,8,[.nilPtr]⟩,
⟨34,.slice 41,1,24,[wn]⟩,
⟨36,.int .i64,1,8,[w6]⟩,
⟨41,.struct [(0,3),(1,9),(2,4)],3,32,[w6,ws,wb]⟩,
⟨44,.slice 96,1,24,[wn]⟩,
⟨46,.struct [(0,44),(1,26)],17,152,[wn,w6,wb,w6,wb,wb,wb,w6,w6,w6,w6,wb,w6,w6,w6,ws,ws]⟩,
⟨48,.slice 241,1,24,[wn]⟩,
⟨50,.struct [(0,9),(1,9),(2,3),(3,4),(4,48)],5,72,[ws,ws,w6,wb,wn]⟩,
⟨51,.slice 3,1,24,[wn]⟩,
⟨52,.slice 243,1,24,[wn]⟩,
⟨54,.struct [(0,3),(1,4),(2,4),(3,3),(4,3),(5,9),(6,9),(7,4),(8,3),(9,9),(10,4),(11,9),(12,4),(13,9),(14,4),(15,50),(20,4),(21,3),(22,51),(23,52),(24,48)],25,312,[w6,wb,wb,w6,w6,ws,ws,wb,w6,ws,wb,ws,wb,ws,wb,ws,ws,w6,wb,wn,wb,w6,wn,wn,wn]⟩,
⟨55,.slice 245,1,24,[wn]⟩,
⟨57,.struct [(0,3),(1,3),(2,9),(3,55)],4,56,[w6,w6,ws,wn]⟩,
⟨59,.struct [(0,3),(1,3),(2,9),(3,9),(4,3),(5,4),(6,4),(7,3),(8,48),(9,3),(10,44),(11,3),(12,54),(37,26),(53,57)],57,632,[w6,w6,ws,ws,w6,wb,wb,w6,wn,w6,wn,w6,w6,wb,wb,w6,w6,ws,ws,wb,w6,ws,wb,ws,wb,ws,wb,ws,ws,w6,wb,wn,wb,w6,wn,wn,wn,w6,wb,w6,wb,wb,wb,w6,w6,w6,w6,wb,w6,w6,w6,ws,ws,w6,w6,ws,wn]⟩,
⟨66,.struct [(0,9),(1,9),(2,3)],3,40,[ws,ws,w6]⟩,
⟨71,.ptr,1,8,[.nilPtr]⟩,
⟨75,.func,1,8,[.nilFunc]⟩,
⟨77,.map 3 41,1,8,[.nilMap]⟩,
⟨78,.map 9 3,1,8,[.nilMap]⟩,
⟨79,.slice 3,1,24,[wn]⟩,
⟨81,.struct [(0,78),(1,77),(2,79),(3,3)],4,48,[.nilMap,.nilMap,wn,w6]⟩,
⟨84,.func,1,8,[.nilFunc]⟩,
⟨92,.struct [(0,3),(1,3)],2,16,[w6,w6]⟩,
⟨96,.struct [(0,3),(1,9)],2,24,[w6,ws]⟩,
⟨102,.map 9 71,1,8,[.nilMap]⟩,
⟨104,.struct [(0,102)],1,8,[.nilMap]⟩,
⟨105,.slice 147,1,24,[wn]⟩,
⟨107,.struct [(0,105)],1,24,[wn]⟩,
⟨119,.int .u64,1,8,[w8]⟩,
⟨120,.ptr,1,8,[.nilPtr]⟩,
⟨121,.slice 5,1,24,[wn]⟩,
⟨123,.struct [(0,120),(1,3),(2,26),(18,121),(19,4)],20,176,[.nilPtr,w6,w6,wb,w6,wb,wb,wb,w6,w6,w6,w6,wb,w6,w6,w6,ws,ws,wn,wb]⟩,
⟨125,.ptr,1,8,[.nilPtr]⟩,
⟨134,.int .u64,1,8,[w8]⟩,
⟨137,.struct [(0,30),(1,9)],2,24,[.nilPtr,ws]⟩,
⟨139,.struct [],0,0,[]⟩,
⟨141,.struct [(0,137)],2,24,[.nilPtr,ws]⟩,
⟨142,.struct [(0,137)],2,24,[.nilPtr,ws]⟩,
⟨147,.struct [(0,9),(1,34)],2,40,[ws,wn]⟩,
⟨149,.int .i64,1,8,[w6]⟩,
⟨156,.int .u32,1,4,[.int .u32 (0)]⟩,
⟨158,.ptr,1,8,[.nilPtr]⟩,
⟨159,.slice 1,1,24,[wn]⟩,
⟨162,.iface,1,16,[.nilIface]⟩,
⟨167,.slice 9,1,24,[wn]⟩,
⟨171,.func,1,8,[.nilFunc]⟩,
⟨178,.int .u64,1,8,[w8]⟩,
⟨182,.ptr,1,8,[.nilPtr]⟩,
⟨193,.array 256 4,256,256,List.replicate 256 wb⟩,
⟨201,.ptr,1,8,[.nilPtr]⟩,
⟨215,.struct [(0,9),(1,3),(2,36)],3,32,[ws,w6,w6]⟩,
⟨221,.array 256 5,256,256,List.replicate 256 w1⟩,
⟨223,.struct [(0,5),(1,5)],2,2,[w1,w1]⟩,
⟨224,.array 16 223,32,32,List.replicate 32 w1⟩,
⟨241,.struct [(0,3),(1,156),(2,9),(3,9)],4,48,[w6,.int .u32 (0),ws,ws]⟩,
⟨243,.struct [(0,9),(1,3),(2,4),(3,4),(4,3)],5,40,[ws,w6,wb,wb,w6]⟩,
⟨245,.struct [(0,3),(1,134),(2,9),(3,55)],4,56,[w6,w8,ws,wn]⟩]
abbrev gX:=Qm5 tyT [(168,1),(171,2)] [] []
def c3:=Yd (rfl:gX f3 []=_)
def c4:=Yd (rfl:gX f4 []=_)
def c5:=Yd (rfl:gX f5 []=_)
def c6:=Yd (rfl:gX f6 []=_)
def c7:=Yd (rfl:gX f7 []=_)
def c8:=Yd (rfl:gX f8 []=_)
def c9:=Yd (rfl:gX f9 []=_)
def c10:=Yd (rfl:gX f10 []=_)
def c11:=Yd (rfl:gX f11 []=_)
def c12:=Yd (rfl:gX f12 []=_)
def c13:=Yd (rfl:gX f13 []=_)
def c14:CFunc:=Yd (show Qm5 tyT [(168,1),(171,2)] [(43,[(139,203),(141,205),(142,208)])] [] f14 []=_ from rfl)
def c15:=Yd (rfl:gX f15 []=_)
def c16:=Yd (rfl:gX f16 []=_)
def c17:=Yd (rfl:gX f17 []=_)
def c18:=Yd (rfl:gX f18 []=_)
def c19:=Yd (rfl:gX f19 []=_)
def c20:=Yd (rfl:gX f20 []=_)
def c21:=Yd (rfl:gX f21 []=_)
def c22:=Yd (rfl:gX f22 []=_)
def c23:=Yd (rfl:gX f23 []=_)
def c24:=Yd (rfl:gX f24 []=_)
def c25:=Yd (rfl:gX f25 []=_)
def c26:=Yd (rfl:gX f26 []=_)
def c27:=Yd (rfl:gX f27 []=_)
def c28:=Yd (rfl:gX f28 []=_)
def c29:=Yd (rfl:gX f29 []=_)
def c30:=Yd (rfl:gX f30 []=_)
def c31:=Yd (rfl:gX f31 []=_)
def c32:=Yd (rfl:gX f32 []=_)
def c33:=Yd (rfl:gX f33 []=_)
def c34:CFunc:=Yd (show gX f34 [false,false,true,true,true,true]=_ from rfl)
def c35:=Yd (rfl:gX f35 []=_)
def c36:=Yd (rfl:gX f36 []=_)
def c37:=Yd (rfl:gX f37 []=_)
def c38:=Yd (rfl:gX f38 []=_)
def c39:=Yd (rfl:gX f39 []=_)
def c40:=Yd (rfl:gX f40 []=_)
def c41:=Yd (rfl:gX f41 []=_)
def c42:=Yd (rfl:gX f42 []=_)
def c43:=Yd (rfl:gX f43 []=_)
def c44:=Yd (rfl:gX f44 []=_)
def c45:=Yd (rfl:gX f45 []=_)
def c46:=Yd (rfl:gX f46 []=_)
def c47:=Yd (rfl:gX f47 []=_)
def c48:=Yd (rfl:gX f48 []=_)
def c49:=Yd (rfl:gX f49 []=_)
def c50:=Yd (rfl:gX f50 []=_)
def c51:=Yd (rfl:gX f51 []=_)
def c52:=Yd (rfl:gX f52 []=_)
def c53:=Yd (rfl:gX f53 []=_)
def c54:=Yd (rfl:gX f54 []=_)
def c55:=Yd (rfl:gX f55 []=_)
def c56:=Yd (rfl:gX f56 []=_)
def c57:=Yd (rfl:gX f57 []=_)
def c58:CFunc:=Yd (show gX f58 [false,false,false,false,false,true,true,false,false,true,false,true,false,true,false,true,false,true,false,true]=_ from rfl)
def c59:=Yd (rfl:gX f59 []=_)
def c60:=Yd (rfl:gX f60 []=_)
def c61:=Yd (rfl:gX f61 []=_)
def c62:=Yd (rfl:gX f62 []=_)
def c63:=Yd (rfl:gX f63 []=_)
def c64:=Yd (rfl:gX f64 []=_)
def c65:=Yd (rfl:gX f65 []=_)
def c66:CFunc:=Yd (show Qm5 tyT [(168,1),(171,2)] [(4,[(125,200)]),(8,[(0,0),(125,195)])] [] f66 []=_ from rfl)
def c67:=Yd (rfl:gX f67 []=_)
def c68:=Yd (rfl:gX f68 []=_)
def c69:=Yd (rfl:gX f69 []=_)
def c70:=Yd (rfl:gX f70 []=_)
def c71:=Yd (rfl:gX f71 []=_)
def c72:=Yd (rfl:gX f72 []=_)
def c73:=Yd (rfl:gX f73 []=_)
def c74:=Yd (rfl:gX f74 []=_)
def c75:=Yd (rfl:gX f75 []=_)
def c76:=Yd (rfl:gX f76 []=_)
def c77:=Yd (rfl:gX f77 []=_)
def c78:=Yd (rfl:gX f78 []=_)
def c79:=Yd (rfl:gX f79 []=_)
def c80:CFunc:=Yd (show Qm5 tyT [(168,1),(171,2)] [(4,[(0,0),(125,195)]),(7,[(0,0),(125,197)]),(13,[(125,199)])] [] f80 []=_ from rfl)
def c81:=Yd (rfl:gX f81 []=_)
def c82:=Yd (rfl:gX f82 []=_)
def c83:=Yd (rfl:gX f83 []=_)
def c84:=Yd (rfl:gX f84 []=_)
def c85:=Yd (rfl:gX f85 []=_)
def c86:=Yd (rfl:gX f86 []=_)
def c87:=Yd (rfl:gX f87 []=_)
def c88:=Yd (rfl:gX f88 []=_)
def c89:=Yd (rfl:gX f89 []=_)
def c90:=Yd (rfl:gX f90 []=_)
def c91:=Yd (rfl:gX f91 []=_)
def c92:=Yd (rfl:gX f92 []=_)
def c93:=Yd (rfl:gX f93 []=_)
def c94:=Yd (rfl:gX f94 []=_)
def c95:=Yd (rfl:gX f95 []=_)
def c96:=Yd (rfl:gX f96 []=_)
def c97:=Yd (rfl:gX f97 []=_)
def c98:=Yd (rfl:gX f98 []=_)
def c99:=Yd (rfl:gX f99 []=_)
def Qr0:CFunc:=Yd (show Qm5 tyT [(168,1),(171,2)] [(12,[(0,0),(125,196)]),(18,[(0,0),(125,197)])] [] f100 []=_ from rfl)
def Z6b:=Yd (rfl:gX f101 []=_)
def Z54:=Yd (rfl:gX f102 []=_)
def Z3q:=Yd (rfl:gX f103 []=_)
def Z53:=Yd (rfl:gX f104 []=_)
def Z6m:=Yd (rfl:gX f105 []=_)
def Z5q:=Yd (rfl:gX f106 []=_)
def Z65:=Yd (rfl:gX f107 []=_)
def Z4t:=Yd (rfl:gX f108 []=_)
def Z4a:=Yd (rfl:gX f109 []=_)
def Z59:=Yd (rfl:gX f110 []=_)
def Z39:=Yd (rfl:gX f111 []=_)
def Z2t:CFunc:=Yd (show Qm5 tyT [(168,1),(171,2)] [(29,[(0,0),(125,196)]),(35,[(0,0),(125,196)]),(40,[(0,0),(125,197)])] [] f112 []=_ from rfl)
def Z3k:=Yd (rfl:gX f113 []=_)
def Z6o:=Yd (rfl:gX f114 []=_)
def Z72:=Yd (rfl:gX f115 []=_)
def Z33:=Yd (rfl:gX f116 []=_)
def Z44:=Yd (rfl:gX f117 []=_)
def Z66:=Yd (rfl:gX f118 []=_)
def Z30:=Yd (rfl:gX f119 []=_)
def Z3h:=Yd (rfl:gX f120 []=_)
def Z6l:=Yd (rfl:gX f121 []=_)
def Z5i:=Yd (rfl:gX f122 []=_)
def Z60:=Yd (rfl:gX f123 []=_)
def Z6n:=Yd (rfl:gX f124 []=_)
def Z4j:=Yd (rfl:gX f125 []=_)
def Z4i:=Yd (rfl:gX f126 []=_)
def Z5n:=Yd (rfl:gX f127 []=_)
def Z4p:=Yd (rfl:gX f128 []=_)
def Z2s:=Yd (rfl:gX f129 []=_)
def Z4s:=Yd (rfl:gX f130 []=_)
def Z6f:=Yd (rfl:gX f131 []=_)
def Z36:=Yd (rfl:gX f132 []=_)
def Z6u:=Yd (rfl:gX f133 []=_)
def Z6q:=Yd (rfl:gX f134 []=_)
def Z4d:=Yd (rfl:gX f135 []=_)
def Z2q:=Yd (rfl:gX f136 []=_)
def Z4g:=Yd (rfl:gX f137 []=_)
def Z3e:CFunc:=Yd (show gX f138 [false,true]=_ from rfl)
def Z42:=Yd (rfl:gX f139 []=_)
def Z6x:=Yd (rfl:gX f140 []=_)
def Z68:=Yd (rfl:gX f141 []=_)
def Z6j:=Yd (rfl:gX f142 []=_)
def Z5m:=Yd (rfl:gX f143 []=_)
def Z6r:=Yd (rfl:gX f144 []=_)
def Z51:=Yd (rfl:gX f145 []=_)
def Z5b:=Yd (rfl:gX f146 []=_)
def Z50:=Yd (rfl:gX f147 []=_)
def Z70:=Yd (rfl:gX f148 []=_)
def Z46:=Yd (rfl:gX f149 []=_)
def Z6i:=Yd (rfl:gX f150 []=_)
def Z3f:=Yd (rfl:gX f151 []=_)
def Z3g:=Yd (rfl:gX f152 []=_)
def Z4r:=Yd (rfl:gX f153 []=_)
def Z4l:=Yd (rfl:gX f154 []=_)
def Z5t:=Yd (rfl:gX f155 []=_)
def Z2o:=Yd (rfl:gX f157 []=_)
def Z3p:=Yd (rfl:gX f158 []=_)
def Z5l:=Yd (rfl:gX f159 []=_)
def Z4k:=Yd (rfl:gX f160 []=_)
def Z4c:=Yd (rfl:gX f161 []=_)
def Z3m:=Yd (rfl:gX f162 []=_)
def Z4b:=Yd (rfl:gX f163 []=_)
def Z5p:=Yd (rfl:gX f164 []=_)
def Z3o:CFunc:=Yd (show gX f165 [false,false,true]=_ from rfl)
def Z52:=Yd (rfl:gX f166 []=_)
def Z6y:=Yd (rfl:gX f167 []=_)
def Z5j:=Yd (rfl:gX f169 []=_)
def Z5z:=Yd (rfl:gX f170 []=_)
def Z4f:=Yd (rfl:gX f172 []=_)
def Z57:=Yd (rfl:gX f173 []=_)
def Z3l:=Yd (rfl:gX f174 []=_)
def Z4u:=Yd (rfl:gX f175 []=_)
def Z3b:=Yd (rfl:gX f192 []=_)
def Z5u:=Yd (rfl:gX f195 []=_)
def Z5s:=Yd (rfl:gX f196 []=_)
def Z2x:=Yd (rfl:gX f197 []=_)
def Z5w:=Yd (rfl:gX f199 []=_)
def Z61:=Yd (rfl:gX f200 []=_)
def Z6h:=Yd (rfl:gX f203 []=_)
def Z3i:=Yd (rfl:gX f205 []=_)
def Z5h:=Yd (rfl:gX f206 []=_)
def Z2v:=Yd (rfl:gX f208 []=_)
def Qyf:List (Option CFunc) := [none,none,none,some c3,some c4,some c5,some c6,some c7,some c8,some c9,some c10,some c11,some c12,some c13,some c14,some c15,some c16,some c17,some c18,some c19,some c20,some c21,some c22,some c23,some c24,some c25,some c26,some c27,some c28,some c29,some c30,some c31,some c32,some c33,some c34,some c35,some c36,some c37,some c38,some c39,some c40,some c41,some c42,some c43,some c44,some c45,some c46,some c47,some c48,some c49,some c50,some c51,some c52,some c53,some c54,some c55,some c56,some c57,some c58,some c59,some c60,some c61,some c62,some c63,some c64,some c65,some c66,some c67,some c68,some c69,some c70,some c71,some c72,some c73,some c74,some c75,some c76,some c77,some c78,some c79,some c80,some c81,some c82,some c83,some c84,some c85,some c86,some c87,some c88,some c89,some c90,some c91,some c92,some c93,some c94,some c95,some c96,some c97,some c98,some c99,some Qr0,some Z6b,some Z54,some Z3q,some Z53,some Z6m,some Z5q,some Z65,some Z4t,some Z4a,some Z59,some Z39,some Z2t,some Z3k,some Z6o,some Z72,some Z33,some Z44,some Z66,some Z30,some Z3h,some Z6l,some Z5i,some Z60,some Z6n,some Z4j,some Z4i,some Z5n,some Z4p,some Z2s,some Z4s,some Z6f,some Z36,some Z6u,some Z6q,some Z4d,some Z2q,some Z4g,some Z3e,some Z42,some Z6x,some Z68,some Z6j,some Z5m,some Z6r,some Z51,some Z5b,some Z50,some Z70,some Z46,some Z6i,some Z3f,some Z3g,some Z4r,some Z4l,some Z5t,none,some Z2o,some Z3p,some Z5l,some Z4k,some Z4c,some Z3m,some Z4b,some Z5p,some Z3o,some Z52,some Z6y,none,some Z5j,some Z5z,none,some Z4f,some Z57,some Z3l,some Z4u,none,none,none,none,none,none,none,none,none,none,none,none,none,none,none,none,some Z3b,none,none,some Z5u,some Z5s,some Z2x,none,some Z5w,some Z61,none,none,some Z6h,none,some Z3i,some Z5h,none,some Z2v]
end
end Go.Av
