/- Part of the proof of FrommqttVersions: for every input the law returns true; no condition. -/
import Derived.Test.YteblaejaahpnaaaGreatDoorAvGen
import Derived.Test.YteblaejaahpnaaaGreatDoorProg
set_option linter.all false
namespace Go.Av
open Go.Proofs.Tryz
noncomputable section
open Go.Proofs
set_option maxRecDepth 100000
abbrev w6:PV := .int .i64 0
abbrev wb:PV := .bool false
abbrev w1:PV := .int .u8 0
abbrev w8:PV := .int .u64 0
abbrev ws:PV := .str []
abbrev wn:PV := .nilSlice
def tyT:List TI := [⟨1,.func,1,8,[.nilFunc]⟩,
⟨2,.int .i64,1,8,[w6]⟩,
⟨3,.int .i64,1,8,[w6]⟩,
⟨4,.bool,1,1,[wb]⟩,
⟨5,.int .u8,1,1,[w1]⟩,
⟨9,.str,1,16,[ws]⟩,
⟨12,.int .u64,1,8,[w8]⟩,
⟨21,.int .i32,1,4,[.int .i32 (0)]⟩,
⟨22,.slice 91,1,24,[wn]⟩,
⟨24,.struct [(0,9),(1,9),(2,3),(3,4),(4,22)],5,72,[ws,ws,w6,wb,wn]⟩,
⟨25,.slice 3,1,24,[wn]⟩,
⟨26,.slice 62,1,24,[wn]⟩,
⟨28,.struct [(0,3),(1,4),(2,4),(3,3),(4,3),(5,9),(6,9),(7,4),(8,3),(9,9),(10,4),(11,9),(12,4),(13,9),(14,4),(15,24),(20,4),(21,3),(22,25),(23,26),(24,22)],25,312,[w6,wb,wb,w6,w6,ws,ws,wb,w6,ws,wb,ws,wb,ws,wb,ws,ws,w6,wb,wn,wb,w6,wn,wn,wn]⟩,
⟨29,.slice 94,1,24,[wn]⟩,
⟨31,.struct [(0,4),(1,3),(2,4),(3,4),(4,4),(5,3)],6,32,[wb,w6,wb,wb,wb,w6]⟩,
⟨33,.struct [(0,3),(1,31),(7,3),(8,3),(9,3),(10,4),(11,3),(12,3),(13,3),(14,9),(15,9)],16,128,[w6,wb,w6,wb,wb,wb,w6,w6,w6,w6,wb,w6,w6,w6,ws,ws]⟩,
⟨34,.slice 98,1,24,[wn]⟩,
⟨36,.struct [(0,3),(1,3),(2,9),(3,34)],4,56,[w6,w6,ws,wn]⟩,
⟨38,.struct [(0,3),(1,3),(2,9),(3,9),(4,3),(5,4),(6,4),(7,3),(8,22),(9,3),(10,29),(11,3),(12,28),(37,33),(53,36)],57,632,[w6,w6,ws,ws,w6,wb,wb,w6,wn,w6,wn,w6,w6,wb,wb,w6,w6,ws,ws,wb,w6,ws,wb,ws,wb,ws,wb,ws,ws,w6,wb,wn,wb,w6,wn,wn,wn,w6,wb,w6,wb,wb,wb,w6,w6,w6,w6,wb,w6,w6,w6,ws,ws,w6,w6,ws,wn]⟩,
⟨39,.func,1,8,[.nilFunc]⟩,
⟨42,.int .i64,1,8,[w6]⟩,
⟨51,.struct [(0,3),(1,3)],2,16,[w6,w6]⟩,
⟨62,.struct [(0,9),(1,3),(2,4),(3,4),(4,3)],5,40,[ws,w6,wb,wb,w6]⟩,
⟨66,.struct [(0,29),(1,33)],17,152,[wn,w6,wb,w6,wb,wb,wb,w6,w6,w6,w6,wb,w6,w6,w6,ws,ws]⟩,
⟨82,.struct [(0,3),(1,3),(2,3)],3,24,[w6,w6,w6]⟩,
⟨89,.int .u32,1,4,[.int .u32 (0)]⟩,
⟨91,.struct [(0,3),(1,89),(2,9),(3,9)],4,48,[w6,.int .u32 (0),ws,ws]⟩,
⟨94,.struct [(0,3),(1,9)],2,24,[w6,ws]⟩,
⟨96,.int .u64,1,8,[w8]⟩,
⟨98,.struct [(0,3),(1,96),(2,9),(3,34)],4,56,[w6,w8,ws,wn]⟩,
⟨99,.func,1,8,[.nilFunc]⟩,
⟨111,.func,1,8,[.nilFunc]⟩,
⟨120,.func,1,8,[.nilFunc]⟩,
⟨121,.func,1,8,[.nilFunc]⟩,
⟨123,.struct [(0,120),(1,121)],2,16,[.nilFunc,.nilFunc]⟩,
⟨125,.map 3 123,1,8,[.nilMap]⟩,
⟨128,.struct [(0,3),(1,28)],26,320,[w6,w6,wb,wb,w6,w6,ws,ws,wb,w6,ws,wb,ws,wb,ws,wb,ws,ws,w6,wb,wn,wb,w6,wn,wn,wn]⟩,
⟨132,.struct [(0,39),(1,42)],2,16,[.nilFunc,w6]⟩,
⟨134,.slice 132,1,24,[wn]⟩,
⟨141,.func,1,8,[.nilFunc]⟩,
⟨144,.func,1,8,[.nilFunc]⟩,
⟨146,.int .u64,1,8,[w8]⟩,
⟨147,.slice 5,1,24,[wn]⟩,
⟨148,.ptr,1,8,[.nilPtr]⟩,
⟨160,.struct [(0,9),(1,3),(2,42)],3,32,[ws,w6,w6]⟩,
⟨180,.struct [(0,3),(1,82),(4,9)],5,48,[w6,w6,w6,w6,ws]⟩,
⟨182,.struct [(0,9)],1,16,[ws]⟩,
⟨184,.map 3 182,1,8,[.nilMap]⟩,
⟨193,.struct [(0,3),(1,25),(2,89),(3,89)],4,40,[w6,wn,.int .u32 (0),.int .u32 (0)]⟩,
⟨207,.slice 9,1,24,[wn]⟩,
⟨214,.struct [(0,3),(1,3),(2,3),(3,3),(4,3),(5,4),(6,4),(7,4),(8,4),(9,4),(10,4),(11,4),(12,9),(13,9),(14,9),(15,9),(16,9)],17,128,[w6,w6,w6,w6,w6,wb,wb,wb,wb,wb,wb,wb,ws,ws,ws,ws,ws]⟩,
⟨217,.map 3 222,1,8,[.nilMap]⟩,
⟨220,.array 64 3,64,512,List.replicate 64 w6⟩,
⟨222,.struct [(0,3),(1,3),(2,89),(3,89)],4,24,[w6,w6,.int .u32 (0),.int .u32 (0)]⟩,
⟨228,.slice 230,1,24,[wn]⟩,
⟨230,.struct [(0,98),(4,228),(5,3),(6,3)],7,96,[w6,w8,ws,wn,wn,w6,w6]⟩,
⟨251,.ptr,1,8,[.nilPtr]⟩,
⟨254,.struct [(0,251),(1,3)],2,16,[.nilPtr,w6]⟩,
⟨256,.func,1,8,[.nilFunc]⟩,
⟨258,.ptr,1,8,[.nilPtr]⟩,
⟨267,.array 256 4,256,256,List.replicate 256 wb⟩,
⟨273,.func,1,8,[.nilFunc]⟩,
⟨275,.func,1,8,[.nilFunc]⟩,
⟨281,.func,1,8,[.nilFunc]⟩,
⟨282,.map 3 281,1,8,[.nilMap]⟩,
⟨286,.struct [(0,3),(1,3),(2,3),(3,4),(4,4)],5,32,[w6,w6,w6,wb,wb]⟩,
⟨294,.struct [(0,4),(1,3)],2,16,[wb,w6]⟩,
⟨295,.slice 294,1,24,[wn]⟩,
⟨297,.struct [(0,9),(1,3),(2,42)],3,32,[ws,w6,w6]⟩,
⟨302,.ptr,1,8,[.nilPtr]⟩,
⟨304,.struct [],0,0,[]⟩,
⟨305,.map 3 99,1,8,[.nilMap]⟩,
⟨308,.slice 256,1,24,[wn]⟩,
⟨313,.struct [(0,251),(1,3),(2,33),(18,147),(19,4)],20,176,[.nilPtr,w6,w6,wb,w6,wb,wb,wb,w6,w6,w6,w6,wb,w6,w6,w6,ws,ws,wn,wb]⟩,
⟨314,.slice 286,1,24,[wn]⟩,
⟨318,.func,1,8,[.nilFunc]⟩,
⟨324,.ptr,1,8,[.nilPtr]⟩,
⟨326,.struct [(0,324),(1,147)],2,32,[.nilPtr,wn]⟩,
⟨333,.array 4 96,4,32,[w8,w8,w8,w8]⟩,
⟨336,.ptr,1,8,[.nilPtr]⟩,
⟨341,.struct [(0,3),(1,3),(2,4),(3,4)],4,24,[w6,w6,wb,wb]⟩,
⟨342,.map 3 346,1,8,[.nilMap]⟩,
⟨345,.struct [(0,251),(1,91)],5,56,[.nilPtr,w6,.int .u32 (0),ws,ws]⟩,
⟨346,.func,1,8,[.nilFunc]⟩,
⟨347,.ptr,1,8,[.nilPtr]⟩,
⟨348,.ptr,1,8,[.nilPtr]⟩,
⟨349,.slice 1,1,24,[wn]⟩,
⟨352,.array 256 5,256,256,List.replicate 256 w1⟩,
⟨354,.struct [(0,5),(1,5)],2,2,[w1,w1]⟩,
⟨355,.array 16 354,32,32,List.replicate 32 w1⟩,
⟨357,.func,1,8,[.nilFunc]⟩,
⟨361,.ptr,1,8,[.nilPtr]⟩,
⟨372,.other,1,8,[.nilPtr]⟩,
⟨377,.ptr,1,8,[.nilPtr]⟩,
⟨379,.ptr,1,8,[.nilPtr]⟩,
⟨383,.int .i64,1,8,[w6]⟩,
⟨392,.int .u64,1,8,[w8]⟩]
abbrev gX:=Qt3 tyT [(474,1),(528,2)] [] []
def c4:CFunc:=Q8 (show gX f4 []=_ from rfl)
def c5:CFunc:=Q8 (show gX f5 []=_ from rfl)
def c6:CFunc:=Q8 (show gX f6 []=_ from rfl)
def c8:CFunc:=Q8 (show gX f8 []=_ from rfl)
def c9:CFunc:=Q8 (show gX f9 []=_ from rfl)
def c10:CFunc:=Q8 (show gX f10 []=_ from rfl)
def c11:CFunc:=Q8 (show gX f11 []=_ from rfl)
def c13:CFunc:=Q8 (show gX f13 []=_ from rfl)
def c14:CFunc:=Q8 (show gX f14 []=_ from rfl)
def c16:CFunc:=Q8 (show gX f16 []=_ from rfl)
def c17:CFunc:=Q8 (show gX f17 []=_ from rfl)
def c18:CFunc:=Q8 (show gX f18 []=_ from rfl)
def c19:CFunc:=Q8 (show gX f19 []=_ from rfl)
def c22:CFunc:=Q8 (show gX f22 []=_ from rfl)
def c23:CFunc:=Q8 (show gX f23 []=_ from rfl)
def c24:CFunc:=Q8 (show gX f24 []=_ from rfl)
def c25:CFunc:=Q8 (show gX f25 []=_ from rfl)
def c26:CFunc:=Q8 (show gX f26 []=_ from rfl)
def c27:CFunc:=Q8 (show gX f27 []=_ from rfl)
def c28:CFunc:=Q8 (show gX f28 []=_ from rfl)
def c29:CFunc:=Q8 (show gX f29 []=_ from rfl)
def c30:CFunc:=Q8 (show gX f30 []=_ from rfl)
def c31:CFunc:=Q8 (show gX f31 []=_ from rfl)
def c32:CFunc:=Q8 (show gX f32 []=_ from rfl)
def c33:CFunc:=Q8 (show gX f33 []=_ from rfl)
def c34:CFunc:=Q8 (show gX f34 []=_ from rfl)
def c35:CFunc:=Q8 (show gX f35 []=_ from rfl)
def c39:CFunc:=Q8 (show gX f39 []=_ from rfl)
def c40:CFunc:=Q8 (show gX f40 []=_ from rfl)
def c41:CFunc:=Q8 (show gX f41 []=_ from rfl)
def c43:CFunc:=Q8 (show gX f43 []=_ from rfl)
def c44:CFunc:=Q8 (show gX f44 []=_ from rfl)
def c45:CFunc:=Q8 (show gX f45 []=_ from rfl)
def c46:CFunc:=Q8 (show gX f46 []=_ from rfl)
def c49:CFunc:=Q8 (show gX f49 []=_ from rfl)
def c50:CFunc:=Q8 (show gX f50 []=_ from rfl)
def c51:CFunc:=Q8 (show gX f51 []=_ from rfl)
def c52:CFunc:=Q8 (show gX f52 []=_ from rfl)
def c53:CFunc:=Q8 (show gX f53 []=_ from rfl)
def c54:CFunc:=Q8 (show gX f54 []=_ from rfl)
def c55:CFunc:=Q8 (show gX f55 []=_ from rfl)
def c56:CFunc:=Q8 (show gX f56 []=_ from rfl)
def c57:CFunc:=Q8 (show gX f57 []=_ from rfl)
def c58:CFunc:=Q8 (show gX f58 [false,false,true]=_ from rfl)
def c59:CFunc:=Q8 (show gX f59 []=_ from rfl)
def c60:CFunc:=Q8 (show gX f60 []=_ from rfl)
def c63:CFunc:=Q8 (show gX f63 []=_ from rfl)
def c68:CFunc:=Q8 (show gX f68 []=_ from rfl)
def c69:CFunc:=Q8 (show gX f69 []=_ from rfl)
def c70:CFunc:=Q8 (show gX f70 []=_ from rfl)
def c71:CFunc:=Q8 (show gX f71 []=_ from rfl)
def c72:CFunc:=Q8 (show gX f72 []=_ from rfl)
def c73:CFunc:=Q8 (show gX f73 []=_ from rfl)
def c74:CFunc:=Q8 (show gX f74 []=_ from rfl)
def c75:CFunc:=Q8 (show gX f75 []=_ from rfl)
def c76:CFunc:=Q8 (show gX f76 [false,true,true,false,false,false,true,false,false,true]=_ from rfl)
def c77:CFunc:=Q8 (show gX f77 []=_ from rfl)
def c78:CFunc:=Q8 (show gX f78 []=_ from rfl)
def c79:CFunc:=Q8 (show gX f79 []=_ from rfl)
def c80:CFunc:=Q8 (show gX f80 []=_ from rfl)
def c82:CFunc:=Q8 (show gX f82 []=_ from rfl)
def c83:CFunc:=Q8 (show gX f83 []=_ from rfl)
def c84:CFunc:=Q8 (show gX f84 []=_ from rfl)
def c85:CFunc:=Q8 (show gX f85 []=_ from rfl)
def c86:CFunc:=Q8 (show gX f86 []=_ from rfl)
def c87:CFunc:=Q8 (show gX f87 []=_ from rfl)
def c88:CFunc:=Q8 (show gX f88 []=_ from rfl)
def c89:CFunc:=Q8 (show gX f89 []=_ from rfl)
def c90:CFunc:=Q8 (show gX f90 []=_ from rfl)
def c91:CFunc:=Q8 (show gX f91 []=_ from rfl)
def c92:CFunc:=Q8 (show gX f92 []=_ from rfl)
def c93:CFunc:=Q8 (show gX f93 []=_ from rfl)
def c94:CFunc:=Q8 (show gX f94 []=_ from rfl)
def c95:CFunc:=Q8 (show gX f95 []=_ from rfl)
def c96:CFunc:=Q8 (show gX f96 []=_ from rfl)
def c97:CFunc:=Q8 (show gX f97 []=_ from rfl)
def c98:CFunc:=Q8 (show gX f98 []=_ from rfl)
def c99:CFunc:=Q8 (show gX f99 []=_ from rfl)
def Z1r:CFunc:=Q8 (show gX f100 []=_ from rfl)
def Z38:CFunc:=Q8 (show gX f101 []=_ from rfl)
def Qw5:CFunc:=Q8 (show gX f102 []=_ from rfl)
def Z5g:CFunc:=Q8 (show gX f103 []=_ from rfl)
def Qx3:CFunc:=Q8 (show gX f104 []=_ from rfl)
def Qyo:CFunc:=Q8 (show gX f105 []=_ from rfl)
def Z52:CFunc:=Q8 (show gX f106 []=_ from rfl)
def Z1h:CFunc:=Q8 (show gX f107 []=_ from rfl)
def Z29:CFunc:=Q8 (show gX f108 []=_ from rfl)
def Qvl:CFunc:=Q8 (show gX f109 []=_ from rfl)
def Qxz:CFunc:=Q8 (show gX f110 []=_ from rfl)
def Qtw:CFunc:=Q8 (show gX f111 []=_ from rfl)
def Z03:CFunc:=Q8 (show gX f112 []=_ from rfl)
def Z3p:CFunc:=Q8 (show gX f113 []=_ from rfl)
def Z30:CFunc:=Q8 (show gX f114 []=_ from rfl)
def Qye:CFunc:=Q8 (show gX f115 []=_ from rfl)
def Qwv:CFunc:=Q8 (show gX f116 []=_ from rfl)
def Z2f:CFunc:=Q8 (show gX f117 []=_ from rfl)
def Z15:CFunc:=Q8 (show gX f118 []=_ from rfl)
def Z56:CFunc:=Q8 (show gX f121 [false,false,false,false,false,false,true,true,false,true,true,false,true,true,true,false,true,true,false,false,true]=_ from rfl)
def Qv8:CFunc:=Q8 (show gX f122 []=_ from rfl)
def Z6p:CFunc:=Q8 (show gX f123 []=_ from rfl)
def Qyt:CFunc:=Q8 (show gX f124 []=_ from rfl)
def Z3x:CFunc:=Q8 (show gX f131 []=_ from rfl)
def Qv1:CFunc:=Q8 (show gX f132 []=_ from rfl)
def Z4p:CFunc:=Q8 (show gX f133 []=_ from rfl)
def Qu6:CFunc:=Q8 (show gX f134 []=_ from rfl)
def Qyw:CFunc:=Q8 (show gX f135 []=_ from rfl)
def Z5q:CFunc:=Q8 (show gX f136 []=_ from rfl)
def Z2w:CFunc:=Q8 (show gX f137 []=_ from rfl)
def Z5w:CFunc:=Q8 (show gX f138 []=_ from rfl)
def Z6i:CFunc:=Q8 (show gX f139 []=_ from rfl)
def Qty:CFunc:=Q8 (show gX f140 []=_ from rfl)
def Z18:CFunc:=Q8 (show gX f141 []=_ from rfl)
def Z0c:CFunc:=Q8 (show gX f142 []=_ from rfl)
def Quu:CFunc:=Q8 (show gX f143 []=_ from rfl)
def Qur:CFunc:=Q8 (show gX f144 []=_ from rfl)
def Z6c:CFunc:=Q8 (show gX f145 []=_ from rfl)
def Qtu:CFunc:=Q8 (show gX f146 []=_ from rfl)
def Qtj:CFunc:=Q8 (show gX f147 []=_ from rfl)
def Z2p:CFunc:=Q8 (show gX f148 []=_ from rfl)
def Qvd:CFunc:=Q8 (show gX f149 []=_ from rfl)
def Z3z:CFunc:=Q8 (show gX f150 []=_ from rfl)
def Z5h:CFunc:=Q8 (show gX f151 []=_ from rfl)
def Z69:CFunc:=Q8 (show gX f152 []=_ from rfl)
def Z6h:CFunc:=Q8 (show gX f153 [false,true,true,false,true,true,false,false,false,true,true,false,false,true]=_ from rfl)
def Quy:CFunc:=Q8 (show gX f154 []=_ from rfl)
def Qzn:CFunc:=Q8 (show gX f155 []=_ from rfl)
def Z2z:CFunc:=Q8 (show gX f156 []=_ from rfl)
def Qtt:CFunc:=Q8 (show gX f157 []=_ from rfl)
def Z4z:CFunc:=Q8 (show gX f158 []=_ from rfl)
def Qux:CFunc:=Q8 (show gX f159 []=_ from rfl)
def Qui:CFunc:=Q8 (show gX f160 []=_ from rfl)
def Qx8:CFunc:=Q8 (show gX f161 []=_ from rfl)
def Z2e:CFunc:=Q8 (show gX f162 []=_ from rfl)
def Z2y:CFunc:=Q8 (show gX f163 []=_ from rfl)
def Qz8:CFunc:=Q8 (show gX f164 []=_ from rfl)
def Qzm:CFunc:=Q8 (show gX f165 []=_ from rfl)
def Z4n:CFunc:=Q8 (show gX f166 []=_ from rfl)
def Qu0:CFunc:=Q8 (show gX f167 []=_ from rfl)
def Quc:CFunc:=Q8 (show gX f168 []=_ from rfl)
def Qu7:CFunc:=Q8 (show gX f169 []=_ from rfl)
def Qv9:CFunc:=Q8 (show gX f170 []=_ from rfl)
def Qy3:CFunc:=Q8 (show gX f171 []=_ from rfl)
def Z06:CFunc:=Q8 (show gX f172 []=_ from rfl)
def Z0v:CFunc:=Q8 (show gX f173 []=_ from rfl)
def Z19:CFunc:=Q8 (show gX f174 []=_ from rfl)
def Z6g:CFunc:=Q8 (show gX f175 []=_ from rfl)
def Qzl:CFunc:=Q8 (show gX f176 []=_ from rfl)
def Qw0:CFunc:=Q8 (show gX f177 []=_ from rfl)
def Z3y:CFunc:=Q8 (show gX f178 []=_ from rfl)
def Z35:CFunc:=Q8 (show gX f179 []=_ from rfl)
def Qz0:CFunc:=Q8 (show gX f180 []=_ from rfl)
def Qut:CFunc:=Q8 (show gX f181 []=_ from rfl)
def Z3a:CFunc:=Q8 (show gX f182 []=_ from rfl)
def Qyr:CFunc:=Q8 (show gX f183 []=_ from rfl)
def Z07:CFunc:=Q8 (show gX f184 []=_ from rfl)
def Z04:CFunc:=Q8 (show gX f185 []=_ from rfl)
def Qyg:CFunc:=Q8 (show gX f186 []=_ from rfl)
def Z37:CFunc:=Q8 (show gX f187 []=_ from rfl)
def Z08:CFunc:=Q8 (show gX f188 []=_ from rfl)
def Z5l:CFunc:=Q8 (show gX f189 []=_ from rfl)
def Qvp:CFunc:=Q8 (show gX f190 []=_ from rfl)
def Qtb:CFunc:=Q8 (show gX f191 [false,false,true,true,true]=_ from rfl)
def Z1c:CFunc:=Q8 (show gX f192 []=_ from rfl)
def Qvc:CFunc:=Q8 (show gX f193 []=_ from rfl)
def Z3n:CFunc:=Q8 (show gX f194 []=_ from rfl)
def Qth:CFunc:=Q8 (show gX f195 []=_ from rfl)
def Z4s:CFunc:=Q8 (show gX f196 []=_ from rfl)
def Z1y:CFunc:=Q8 (show gX f198 []=_ from rfl)
def Qua:CFunc:=Q8 (show gX f199 []=_ from rfl)
def Z46:CFunc:=Q8 (show gX f200 []=_ from rfl)
def Z6k:CFunc:=Q8 (show gX f201 []=_ from rfl)
def Z4t:CFunc:=Q8 (show gX f202 []=_ from rfl)
def Z2v:CFunc:=Q8 (show gX f215 []=_ from rfl)
def Z1s:CFunc:=Q8 (show gX f216 []=_ from rfl)
def Qz1:CFunc:=Q8 (show gX f217 []=_ from rfl)
def Z31:CFunc:=Q8 (show gX f218 []=_ from rfl)
def Z1v:CFunc:=Q8 (show gX f219 []=_ from rfl)
def Z0o:CFunc:=Q8 (show gX f220 []=_ from rfl)
def Z3d:CFunc:=Q8 (show gX f221 []=_ from rfl)
def Qzw:CFunc:=Q8 (show gX f222 []=_ from rfl)
def Qvj:CFunc:=Q8 (show gX f223 []=_ from rfl)
def Qzh:CFunc:=Q8 (show gX f224 []=_ from rfl)
def Qwx:CFunc:=Q8 (show gX f225 []=_ from rfl)
def Qu3:CFunc:=Q8 (show gX f226 []=_ from rfl)
def Z4j:CFunc:=Q8 (show gX f227 []=_ from rfl)
def Z0m:CFunc:=Q8 (show gX f228 []=_ from rfl)
def Quo:CFunc:=Q8 (show gX f229 []=_ from rfl)
def Z1q:CFunc:=Q8 (show gX f230 []=_ from rfl)
def Z23:CFunc:=Q8 (show gX f231 []=_ from rfl)
def Qwe:CFunc:=Q8 (show gX f232 []=_ from rfl)
def Z0u:CFunc:=Q8 (show gX f233 []=_ from rfl)
def Z5b:CFunc:=Q8 (show gX f234 []=_ from rfl)
def Z4d:CFunc:=Q8 (show gX f235 []=_ from rfl)
def Qzo:CFunc:=Q8 (show gX f236 []=_ from rfl)
def Z0j:CFunc:=Q8 (show gX f237 []=_ from rfl)
def Z4o:CFunc:=Q8 (show gX f238 []=_ from rfl)
def Z6q:CFunc:=Q8 (show gX f239 [false,false,false,false,false,false,true]=_ from rfl)
def Z09:CFunc:=Q8 (show gX f240 []=_ from rfl)
def Z21:CFunc:=Q8 (show gX f241 []=_ from rfl)
def Qxs:CFunc:=Q8 (show gX f242 []=_ from rfl)
def Qvw:CFunc:=Q8 (show gX f243 []=_ from rfl)
def Z0r:CFunc:=Q8 (show gX f244 []=_ from rfl)
def Qx7:CFunc:=Q8 (show gX f245 []=_ from rfl)
def Qzb:CFunc:=Q8 (show gX f246 []=_ from rfl)
def Quh:CFunc:=Q8 (show gX f247 []=_ from rfl)
def Z54:CFunc:=Q8 (show gX f248 []=_ from rfl)
def Qzk:CFunc:=Q8 (show gX f249 []=_ from rfl)
def Qzx:CFunc:=Q8 (show gX f250 []=_ from rfl)
def Z0q:CFunc:=Q8 (show gX f251 []=_ from rfl)
def Z0w:CFunc:=Q8 (show gX f252 []=_ from rfl)
def Z5d:CFunc:=Q8 (show gX f253 []=_ from rfl)
def Qtk:CFunc:=Q8 (show gX f254 []=_ from rfl)
def Qu2:CFunc:=Q8 (show gX f255 []=_ from rfl)
def Z1j:CFunc:=Q8 (show gX f256 []=_ from rfl)
def Z1f:CFunc:=Q8 (show gX f257 []=_ from rfl)
def Qv0:CFunc:=Q8 (show gX f258 []=_ from rfl)
def Z2l:CFunc:=Q8 (show gX f259 []=_ from rfl)
def Z5x:CFunc:=Q8 (show gX f260 []=_ from rfl)
def Qvh:CFunc:=Q8 (show gX f261 []=_ from rfl)
def Z6a:CFunc:=Q8 (show gX f262 []=_ from rfl)
def Qwt:CFunc:=Q8 (show gX f263 []=_ from rfl)
def Z27:CFunc:=Q8 (show gX f264 []=_ from rfl)
def Qzz:CFunc:=Q8 (show gX f265 []=_ from rfl)
def Z16:CFunc:=Q8 (show gX f266 []=_ from rfl)
def Qxn:CFunc:=Q8 (show gX f267 []=_ from rfl)
def Z3o:CFunc:=Q8 (show gX f268 []=_ from rfl)
def Qul:CFunc:=Q8 (show gX f269 []=_ from rfl)
def Qtq:CFunc:=Q8 (show gX f270 []=_ from rfl)
def Z3c:CFunc:=Q8 (show gX f271 []=_ from rfl)
def Z00:CFunc:=Q8 (show gX f272 []=_ from rfl)
def Qz9:CFunc:=Q8 (show gX f273 []=_ from rfl)
def Qxf:CFunc:=Q8 (show gX f274 []=_ from rfl)
def Z0t:CFunc:=Q8 (show gX f275 []=_ from rfl)
def Z48:CFunc:=Q8 (show gX f276 []=_ from rfl)
def Z2o:CFunc:=Q8 (show gX f287 []=_ from rfl)
def Qtx:CFunc:=Q8 (show gX f288 []=_ from rfl)
def Qug:CFunc:=Q8 (show gX f289 []=_ from rfl)
def Qxx:CFunc:=Q8 (show gX f290 []=_ from rfl)
def Qud:CFunc:=Q8 (show gX f291 []=_ from rfl)
def Qto:CFunc:=Q8 (show gX f292 []=_ from rfl)
def Qup:CFunc:=Q8 (show gX f293 []=_ from rfl)
def Qy4:CFunc:=Q8 (show gX f294 []=_ from rfl)
def Z5f:CFunc:=Q8 (show gX f295 []=_ from rfl)
def Qwk:CFunc:=Q8 (show gX f296 []=_ from rfl)
def Z02:CFunc:=Q8 (show gX f297 []=_ from rfl)
def Qz6:CFunc:=Q8 (show gX f298 []=_ from rfl)
def Qtf:CFunc:=Q8 (show gX f299 []=_ from rfl)
def Qwr:CFunc:=Q8 (show gX f300 []=_ from rfl)
def Qtl:CFunc:=Q8 (show gX f301 []=_ from rfl)
def Qx1:CFunc:=Q8 (show gX f302 []=_ from rfl)
def Qw4:CFunc:=Q8 (show gX f303 []=_ from rfl)
def Z1k:CFunc:=Q8 (show gX f304 []=_ from rfl)
def Quk:CFunc:=Q8 (show gX f305 []=_ from rfl)
def Qyx:CFunc:=Q8 (show gX f306 []=_ from rfl)
def Z01:CFunc:=Q8 (show gX f307 []=_ from rfl)
def Z1x:CFunc:=Q8 (show gX f308 []=_ from rfl)
def Z3v:CFunc:=Q8 (show gX f309 []=_ from rfl)
def Qv7:CFunc:=Q8 (show gX f310 []=_ from rfl)
def Qzd:CFunc:=Q8 (show gX f311 []=_ from rfl)
def Qyj:CFunc:=Q8 (show gX f312 []=_ from rfl)
def Z33:CFunc:=Q8 (show gX f313 []=_ from rfl)
def Z4u:CFunc:=Q8 (show gX f314 []=_ from rfl)
def Qyd:CFunc:=Q8 (show gX f315 []=_ from rfl)
def Qu5:CFunc:=Q8 (show gX f316 []=_ from rfl)
def Z6b:CFunc:=Q8 (show gX f317 []=_ from rfl)
def Z5n:CFunc:=Q8 (show gX f318 []=_ from rfl)
def Z0i:CFunc:=Q8 (show gX f319 []=_ from rfl)
def Qym:CFunc:=Q8 (show gX f320 []=_ from rfl)
def Qwd:CFunc:=Q8 (show gX f321 []=_ from rfl)
def Z32:CFunc:=Q8 (show gX f322 []=_ from rfl)
def Qyf:CFunc:=Q8 (show gX f323 []=_ from rfl)
def Qtp:CFunc:=Q8 (show gX f324 []=_ from rfl)
def Qy9:CFunc:=Q8 (show gX f325 [false,true]=_ from rfl)
def Z0n:CFunc:=Q8 (show gX f326 []=_ from rfl)
def Qwc:CFunc:=Q8 (show gX f327 []=_ from rfl)
def Qv2:CFunc:=Q8 (show gX f328 []=_ from rfl)
def Z5r:CFunc:=Q8 (show gX f329 []=_ from rfl)
def Qy7:CFunc:=Q8 (show gX f330 []=_ from rfl)
def Z4v:CFunc:=Q8 (show gX f331 []=_ from rfl)
def Z2b:CFunc:=Q8 (show gX f332 []=_ from rfl)
def Z6d:CFunc:=Q8 (show gX f333 []=_ from rfl)
def Z3b:CFunc:=Q8 (show gX f334 []=_ from rfl)
def Que:CFunc:=Q8 (show gX f335 []=_ from rfl)
def Qxu:CFunc:=Q8 (show gX f336 []=_ from rfl)
def Qyv:CFunc:=Q8 (show gX f337 []=_ from rfl)
def Z12:CFunc:=Q8 (show gX f338 []=_ from rfl)
def Z2q:CFunc:=Q8 (show gX f339 []=_ from rfl)
def Qzp:CFunc:=Q8 (show gX f340 []=_ from rfl)
def Qtz:CFunc:=Q8 (show gX f341 []=_ from rfl)
def Qx0:CFunc:=Q8 (show gX f342 []=_ from rfl)
def Z3f:CFunc:=Q8 (show gX f343 []=_ from rfl)
def Z5i:CFunc:=Q8 (show gX f344 []=_ from rfl)
def Qts:CFunc:=Q8 (show gX f345 []=_ from rfl)
def Z3u:CFunc:=Q8 (show gX f346 []=_ from rfl)
def Qta:CFunc:=Q8 (show gX f347 []=_ from rfl)
def Z0k:CFunc:=Q8 (show gX f348 []=_ from rfl)
def Qyn:CFunc:=Q8 (show gX f349 []=_ from rfl)
def Z4i:CFunc:=Q8 (show gX f350 []=_ from rfl)
def Z43:CFunc:=Q8 (show gX f351 []=_ from rfl)
def Z4b:CFunc:=Q8 (show gX f352 []=_ from rfl)
def Qvf:CFunc:=Q8 (show gX f353 []=_ from rfl)
def Qxj:CFunc:=Q8 (show gX f363 []=_ from rfl)
def Z22:CFunc:=Q8 (show gX f364 []=_ from rfl)
def Z6r:CFunc:=Q8 (show gX f365 []=_ from rfl)
def Z5t:CFunc:=Q8 (show gX f366 []=_ from rfl)
def Qv4:CFunc:=Q8 (show gX f367 []=_ from rfl)
def Qvs:CFunc:=Q8 (show gX f368 []=_ from rfl)
def Qve:CFunc:=Q8 (show gX f369 []=_ from rfl)
def Qzy:CFunc:=Q8 (show gX f370 []=_ from rfl)
def Z5u:CFunc:=Q8 (show gX f371 []=_ from rfl)
def Qwg:CFunc:=Q8 (show gX f372 []=_ from rfl)
def Z1z:CFunc:=Q8 (show gX f373 []=_ from rfl)
def Z5m:CFunc:=Q8 (show gX f374 []=_ from rfl)
def Qvq:CFunc:=Q8 (show gX f375 []=_ from rfl)
def Qvo:CFunc:=Q8 (show gX f376 []=_ from rfl)
def Z4w:CFunc:=Q8 (show gX f377 []=_ from rfl)
def Qxl:CFunc:=Q8 (show gX f378 []=_ from rfl)
def Z1g:CFunc:=Q8 (show gX f379 []=_ from rfl)
def Z2m:CFunc:=Q8 (show gX f380 []=_ from rfl)
def Z0p:CFunc:=Q8 (show gX f381 []=_ from rfl)
def Z2d:CFunc:=Q8 (show gX f382 []=_ from rfl)
def Qwo:CFunc:=Q8 (show gX f383 []=_ from rfl)
def Z1d:CFunc:=Q8 (show gX f384 []=_ from rfl)
def Z2r:CFunc:=Q8 (show gX f385 []=_ from rfl)
def Qwf:CFunc:=Q8 (show gX f386 []=_ from rfl)
def Z1l:CFunc:=Q8 (show gX f387 []=_ from rfl)
def Qw6:CFunc:=Q8 (show gX f388 []=_ from rfl)
def Qwj:CFunc:=Q8 (show gX f389 []=_ from rfl)
def Z4f:CFunc:=Q8 (show gX f390 []=_ from rfl)
def Z3t:CFunc:=Q8 (show gX f391 []=_ from rfl)
def Z4g:CFunc:=Q8 (show gX f392 []=_ from rfl)
def Z3m:CFunc:=Q8 (show gX f393 []=_ from rfl)
def Z5o:CFunc:=Q8 (show gX f394 []=_ from rfl)
def Qy8:CFunc:=Q8 (show gX f395 []=_ from rfl)
def Z4r:CFunc:=Q8 (show gX f396 []=_ from rfl)
def Qyp:CFunc:=Q8 (show gX f397 []=_ from rfl)
def Z41:CFunc:=Q8 (show gX f399 []=_ from rfl)
def Qxw:CFunc:=Q8 (show gX f400 [false,false,false,false,false,true,true,false,false,true,false,true,false,true,false,true,false,true,false,true]=_ from rfl)
def Z1n:CFunc:=Q8 (show gX f401 []=_ from rfl)
def Qtv:CFunc:=Q8 (show gX f402 []=_ from rfl)
def Z57:CFunc:=Q8 (show gX f403 []=_ from rfl)
def Qwq:CFunc:=Q8 (show gX f404 []=_ from rfl)
def Z13:CFunc:=Q8 (show gX f405 []=_ from rfl)
def Z2c:CFunc:=Q8 (show gX f406 []=_ from rfl)
def Qwn:CFunc:=Q8 (show gX f407 []=_ from rfl)
def Qxo:CFunc:=Q8 (show gX f408 []=_ from rfl)
def Qx2:CFunc:=Q8 (show gX f409 []=_ from rfl)
def Z6f:CFunc:=Q8 (show gX f410 []=_ from rfl)
def Z44:CFunc:=Q8 (show gX f411 []=_ from rfl)
def Qxt:CFunc:=Q8 (show gX f412 []=_ from rfl)
def Z0e:CFunc:=Q8 (show gX f413 []=_ from rfl)
def Qwz:CFunc:=Q8 (show gX f414 []=_ from rfl)
def Qvr:CFunc:=Q8 (show gX f425 []=_ from rfl)
def Z2x:CFunc:=Q8 (show gX f426 []=_ from rfl)
def Qy5:CFunc:=Q8 (show gX f427 []=_ from rfl)
def Quf:CFunc:=Q8 (show gX f428 []=_ from rfl)
def Qva:CFunc:=Q8 (show gX f429 []=_ from rfl)
def Z5v:CFunc:=Q8 (show gX f430 []=_ from rfl)
def Quw:CFunc:=Q8 (show gX f431 []=_ from rfl)
def Z2k:CFunc:=Q8 (show gX f432 []=_ from rfl)
def Z5z:CFunc:=Q8 (show gX f433 []=_ from rfl)
def Qwi:CFunc:=Q8 (show gX f434 []=_ from rfl)
def Qu8:CFunc:=Q8 (show gX f435 []=_ from rfl)
def Z0a:CFunc:=Q8 (show gX f436 []=_ from rfl)
def Z1w:CFunc:=Q8 (show gX f437 []=_ from rfl)
def Z66:CFunc:=Q8 (show gX f438 []=_ from rfl)
def Qwa:CFunc:=Q8 (show gX f439 []=_ from rfl)
def Z4y:CFunc:=Q8 (show gX f440 []=_ from rfl)
def Qyz:CFunc:=Q8 (show gX f441 []=_ from rfl)
def Quq:CFunc:=Q8 (show gX f442 []=_ from rfl)
def Z2a:CFunc:=Q8 (show gX f443 []=_ from rfl)
def Z3g:CFunc:=Q8 (show gX f444 []=_ from rfl)
def Z65:CFunc:=Q8 (show gX f445 []=_ from rfl)
def Qxv:CFunc:=Q8 (show gX f446 []=_ from rfl)
def Qtd:CFunc:=Q8 (show gX f447 []=_ from rfl)
def Z1o:CFunc:=Q8 (show gX f448 []=_ from rfl)
def Z4q:CFunc:=Q8 (show gX f449 []=_ from rfl)
def Z4m:CFunc:=Q8 (show gX f450 []=_ from rfl)
def Z0x:CFunc:=Q8 (show gX f451 []=_ from rfl)
def Z4x:CFunc:=Q8 (show gX f452 []=_ from rfl)
def Qya:CFunc:=Q8 (show gX f453 []=_ from rfl)
def Qx9:CFunc:=Q8 (show gX f454 []=_ from rfl)
def Z20:CFunc:=Q8 (show gX f458 []=_ from rfl)
def Qzt:CFunc:=Q8 (show gX f459 []=_ from rfl)
def Qxp:CFunc:=Q8 (show gX f460 []=_ from rfl)
def Qxm:CFunc:=Q8 (show gX f461 []=_ from rfl)
def Qx4:CFunc:=Q8 (show gX f462 []=_ from rfl)
def Qz3:CFunc:=Q8 (show gX f463 []=_ from rfl)
def Qu1:CFunc:=Q8 (show gX f464 []=_ from rfl)
def Z0y:CFunc:=Q8 (show gX f465 []=_ from rfl)
def Qu9:CFunc:=Q8 (show gX f466 []=_ from rfl)
def Qyy:CFunc:=Q8 (show gX f467 []=_ from rfl)
def Qy6:CFunc:=Q8 (show gX f468 []=_ from rfl)
def Z3s:CFunc:=Q8 (show gX f469 []=_ from rfl)
def Z63:CFunc:=Q8 (show gX f470 []=_ from rfl)
def Qvz:CFunc:=Q8 (show gX f471 []=_ from rfl)
def Qyc:CFunc:=Q8 (show gX f472 []=_ from rfl)
def Z5e:CFunc:=Q8 (show gX f473 []=_ from rfl)
def Qvm:CFunc:=Q8 (show gX f475 []=_ from rfl)
def Qv5:CFunc:=Q8 (show gX f476 []=_ from rfl)
def Qy2:CFunc:=Q8 (show gX f477 []=_ from rfl)
def Z25:CFunc:=Q8 (show gX f478 []=_ from rfl)
def Qy0:CFunc:=Q8 (show gX f479 []=_ from rfl)
def Quj:CFunc:=Q8 (show gX f480 []=_ from rfl)
def Z3h:CFunc:=Q8 (show gX f481 []=_ from rfl)
def Qtn:CFunc:=Q8 (show gX f482 []=_ from rfl)
def Z0h:CFunc:=Q8 (show gX f483 []=_ from rfl)
def Z36:CFunc:=Q8 (show gX f484 []=_ from rfl)
def Qx6:CFunc:=Q8 (show gX f485 []=_ from rfl)
def Z3l:CFunc:=Q8 (show gX f486 []=_ from rfl)
def Z3r:CFunc:=Q8 (show gX f487 []=_ from rfl)
def Z0l:CFunc:=Q8 (show gX f488 []=_ from rfl)
def Z0f:CFunc:=Q8 (show gX f489 []=_ from rfl)
def Z1e:CFunc:=Q8 (show gX f490 []=_ from rfl)
def Qxb:CFunc:=Q8 (show gX f491 []=_ from rfl)
def Z3e:CFunc:=Q8 (show gX f492 []=_ from rfl)
def Qxh:CFunc:=Q8 (show gX f495 []=_ from rfl)
def Z24:CFunc:=Q8 (show gX f496 []=_ from rfl)
def Qtg:CFunc:=Q8 (show gX f497 []=_ from rfl)
def Z5j:CFunc:=Q8 (show gX f498 []=_ from rfl)
def Qz4:CFunc:=Q8 (show gX f499 []=_ from rfl)
def Qz2:CFunc:=Q8 (show gX f500 []=_ from rfl)
def Z6o:CFunc:=Q8 (show gX f501 []=_ from rfl)
def Z3j:CFunc:=Q8 (show gX f502 []=_ from rfl)
def Qz5:CFunc:=Q8 (show gX f503 []=_ from rfl)
def Z17:CFunc:=Q8 (show gX f504 []=_ from rfl)
def Z5s:CFunc:=Q8 (show gX f505 []=_ from rfl)
def Z1u:CFunc:=Q8 (show gX f506 []=_ from rfl)
def Z3i:CFunc:=Q8 (show gX f507 []=_ from rfl)
def Z5y:CFunc:=Q8 (show gX f508 []=_ from rfl)
def Qvy:CFunc:=Q8 (show gX f509 []=_ from rfl)
def Qxr:CFunc:=Q8 (show gX f510 []=_ from rfl)
def Z1b:CFunc:=Q8 (show gX f511 []=_ from rfl)
def Z5p:CFunc:=Q8 (show gX f512 []=_ from rfl)
def Z53:CFunc:=Q8 (show gX f513 []=_ from rfl)
def Z6l:CFunc:=Q8 (show gX f514 []=_ from rfl)
def Z42:CFunc:=Q8 (show gX f515 [false,false,true]=_ from rfl)
def Qvu:CFunc:=Q8 (show gX f516 []=_ from rfl)
def Qwy:CFunc:=Q8 (show gX f517 []=_ from rfl)
def Z3k:CFunc:=Q8 (show gX f518 []=_ from rfl)
def Z61:CFunc:=Q8 (show gX f519 []=_ from rfl)
def Qus:CFunc:=Q8 (show gX f520 []=_ from rfl)
def Z62:CFunc:=Q8 (show gX f521 []=_ from rfl)
def Z3w:CFunc:=Q8 (show gX f522 []=_ from rfl)
def Z0b:CFunc:=Q8 (show gX f523 []=_ from rfl)
def Qvk:CFunc:=Q8 (show gX f524 []=_ from rfl)
def Z2n:CFunc:=Q8 (show gX f525 []=_ from rfl)
def Z55:CFunc:=Q8 (show gX f526 []=_ from rfl)
def Z14:CFunc:=Q8 (show gX f527 []=_ from rfl)
def Qw7:CFunc:=Q8 (show gX f529 []=_ from rfl)
def Z4k:CFunc:=Q8 (show gX f530 []=_ from rfl)
def Qvg:CFunc:=Q8 (show gX f531 []=_ from rfl)
def Qzg:CFunc:=Q8 (show gX f532 []=_ from rfl)
def Z45:CFunc:=Q8 (show gX f533 []=_ from rfl)
def Qq3:List (Option CFunc) := [none,none,none,none,some c4,some c5,some c6,none,some c8,some c9,some c10,some c11,none,some c13,some c14,none,some c16,some c17,some c18,some c19,none,none,some c22,some c23,some c24,some c25,some c26,some c27,some c28,some c29,some c30,some c31,some c32,some c33,some c34,some c35,none,none,none,some c39,some c40,some c41,none,some c43,some c44,some c45,some c46,none,none,some c49,some c50,some c51,some c52,some c53,some c54,some c55,some c56,some c57,some c58,some c59,some c60,none,none,some c63,none,none,none,none,some c68,some c69,some c70,some c71,some c72,some c73,some c74,some c75,some c76,some c77,some c78,some c79,some c80,none,some c82,some c83,some c84,some c85,some c86,some c87,some c88,some c89,some c90,some c91,some c92,some c93,some c94,some c95,some c96,some c97,some c98,some c99,some Z1r,some Z38,some Qw5,some Z5g,some Qx3,some Qyo,some Z52,some Z1h,some Z29,some Qvl,some Qxz,some Qtw,some Z03,some Z3p,some Z30,some Qye,some Qwv,some Z2f,some Z15,none,none,some Z56,some Qv8,some Z6p,some Qyt,none,none,none,none,none,none,some Z3x,some Qv1,some Z4p,some Qu6,some Qyw,some Z5q,some Z2w,some Z5w,some Z6i,some Qty,some Z18,some Z0c,some Quu,some Qur,some Z6c,some Qtu,some Qtj,some Z2p,some Qvd,some Z3z,some Z5h,some Z69,some Z6h,some Quy,some Qzn,some Z2z,some Qtt,some Z4z,some Qux,some Qui,some Qx8,some Z2e,some Z2y,some Qz8,some Qzm,some Z4n,some Qu0,some Quc,some Qu7,some Qv9,some Qy3,some Z06,some Z0v,some Z19,some Z6g,some Qzl,some Qw0,some Z3y,some Z35,some Qz0,some Qut,some Z3a,some Qyr,some Z07,some Z04,some Qyg,some Z37,some Z08,some Z5l,some Qvp,some Qtb,some Z1c,some Qvc,some Z3n,some Qth,some Z4s,none,some Z1y,some Qua,some Z46,some Z6k,some Z4t,none,none,none,none,none,none,none,none,none,none,none,none,some Z2v,some Z1s,some Qz1,some Z31,some Z1v,some Z0o,some Z3d,some Qzw,some Qvj,some Qzh,some Qwx,some Qu3,some Z4j,some Z0m,some Quo,some Z1q,some Z23,some Qwe,some Z0u,some Z5b,some Z4d,some Qzo,some Z0j,some Z4o,some Z6q,some Z09,some Z21,some Qxs,some Qvw,some Z0r,some Qx7,some Qzb,some Quh,some Z54,some Qzk,some Qzx,some Z0q,some Z0w,some Z5d,some Qtk,some Qu2,some Z1j,some Z1f,some Qv0,some Z2l,some Z5x,some Qvh,some Z6a,some Qwt,some Z27,some Qzz,some Z16,some Qxn,some Z3o,some Qul,some Qtq,some Z3c,some Z00,some Qz9,some Qxf,some Z0t,some Z48,none,none,none,none,none,none,none,none,none,none,some Z2o,some Qtx,some Qug,some Qxx,some Qud,some Qto,some Qup,some Qy4,some Z5f,some Qwk,some Z02,some Qz6,some Qtf,some Qwr,some Qtl,some Qx1,some Qw4,some Z1k,some Quk,some Qyx,some Z01,some Z1x,some Z3v,some Qv7,some Qzd,some Qyj,some Z33,some Z4u,some Qyd,some Qu5,some Z6b,some Z5n,some Z0i,some Qym,some Qwd,some Z32,some Qyf,some Qtp,some Qy9,some Z0n,some Qwc,some Qv2,some Z5r,some Qy7,some Z4v,some Z2b,some Z6d,some Z3b,some Que,some Qxu,some Qyv,some Z12,some Z2q,some Qzp,some Qtz,some Qx0,some Z3f,some Z5i,some Qts,some Z3u,some Qta,some Z0k,some Qyn,some Z4i,some Z43,some Z4b,some Qvf,none,none,none,none,none,none,none,none,none,some Qxj,some Z22,some Z6r,some Z5t,some Qv4,some Qvs,some Qve,some Qzy,some Z5u,some Qwg,some Z1z,some Z5m,some Qvq,some Qvo,some Z4w,some Qxl,some Z1g,some Z2m,some Z0p,some Z2d,some Qwo,some Z1d,some Z2r,some Qwf,some Z1l,some Qw6,some Qwj,some Z4f,some Z3t,some Z4g,some Z3m,some Z5o,some Qy8,some Z4r,some Qyp,none,some Z41,some Qxw,some Z1n,some Qtv,some Z57,some Qwq,some Z13,some Z2c,some Qwn,some Qxo,some Qx2,some Z6f,some Z44,some Qxt,some Z0e,some Qwz,none,none,none,none,none,none,none,none,none,none,some Qvr,some Z2x,some Qy5,some Quf,some Qva,some Z5v,some Quw,some Z2k,some Z5z,some Qwi,some Qu8,some Z0a,some Z1w,some Z66,some Qwa,some Z4y,some Qyz,some Quq,some Z2a,some Z3g,some Z65,some Qxv,some Qtd,some Z1o,some Z4q,some Z4m,some Z0x,some Z4x,some Qya,some Qx9,none,none,none,some Z20,some Qzt,some Qxp,some Qxm,some Qx4,some Qz3,some Qu1,some Z0y,some Qu9,some Qyy,some Qy6,some Z3s,some Z63,some Qvz,some Qyc,some Z5e,none,some Qvm,some Qv5,some Qy2,some Z25,some Qy0,some Quj,some Z3h,some Qtn,some Z0h,some Z36,some Qx6,some Z3l,some Z3r,some Z0l,some Z0f,some Z1e,some Qxb,some Z3e,none,none,some Qxh,some Z24,some Qtg,some Z5j,some Qz4,some Qz2,some Z6o,some Z3j,some Qz5,some Z17,some Z5s,some Z1u,some Z3i,some Z5y,some Qvy,some Qxr,some Z1b,some Z5p,some Z53,some Z6l,some Z42,some Qvu,some Qwy,some Z3k,some Z61,some Qus,some Z62,some Z3w,some Z0b,some Qvk,some Z2n,some Z55,some Z14,none,some Qw7,some Z4k,some Qvg,some Qzg,some Z45]
end
end Go.Av
