/- Part of the proof of CrossTexts: for every input the law returns true; no condition. -/
import Derived.Test.YtaokaobiihpkbaaGreatDoorAvGen
import Derived.Test.YtaokaobiihpkbaaGreatDoorProg
set_option linter.all false
namespace Go.Av
open Go.Proofs.Tryz
noncomputable section
open Go.Proofs
set_option maxRecDepth 100000
abbrev w6:PV := .int .i64 0
abbrev wb:PV := .bool false
abbrev w1:PV := .int .u8 0
abbrev w8:PV := .int .u64 0
abbrev ws:PV := .str []
abbrev wn:PV := .nilSlice
def tyT:List TI := [⟨1,.func,1,8,[.nilFunc]⟩,
⟨2,.int .i64,1,8,[w6]⟩,
⟨3,.int .i64,1,8,[w6]⟩,
⟨4,.bool,1,1,[wb]⟩,
⟨5,.int .u8,1,1,[w1]⟩,
⟨9,.str,1,16,[ws]⟩,
⟨12,.int .u64,1,8,[w8]⟩,
⟨21,.int .i32,1,4,[.int .i32 (0)]⟩,
⟨22,.slice 62,1,24,[wn]⟩,
⟨23,.slice 99,1,24,[wn]⟩,
⟨24,.slice 104,1,24,[wn]⟩,
⟨26,.struct [(0,9),(1,9),(2,3),(3,4),(4,23)],5,72,[ws,ws,w6,wb,wn]⟩,
⟨27,.slice 3,1,24,[wn]⟩,
⟨28,.slice 101,1,24,[wn]⟩,
⟨30,.struct [(0,3),(1,4),(2,4),(3,3),(4,3),(5,9),(6,9),(7,4),(8,3),(9,9),(10,4),(11,9),(12,4),(13,9),(14,4),(15,26),(20,4),(21,3),(22,27),(23,28),(24,23)],25,312,[w6,wb,wb,w6,w6,ws,ws,wb,w6,ws,wb,ws,wb,ws,wb,ws,ws,w6,wb,wn,wb,w6,wn,wn,wn]⟩,
⟨32,.struct [(0,4),(1,3),(2,4),(3,4),(4,4),(5,3)],6,32,[wb,w6,wb,wb,wb,w6]⟩,
⟨34,.struct [(0,3),(1,32),(7,3),(8,3),(9,3),(10,4),(11,3),(12,3),(13,3),(14,9),(15,9)],16,128,[w6,wb,w6,wb,wb,wb,w6,w6,w6,w6,wb,w6,w6,w6,ws,ws]⟩,
⟨35,.slice 108,1,24,[wn]⟩,
⟨37,.struct [(0,3),(1,3),(2,9),(3,35)],4,56,[w6,w6,ws,wn]⟩,
⟨39,.struct [(0,3),(1,3),(2,9),(3,9),(4,3),(5,4),(6,4),(7,3),(8,23),(9,3),(10,24),(11,3),(12,30),(37,34),(53,37)],57,632,[w6,w6,ws,ws,w6,wb,wb,w6,wn,w6,wn,w6,w6,wb,wb,w6,w6,ws,ws,wb,w6,ws,wb,ws,wb,ws,wb,ws,ws,w6,wb,wn,wb,w6,wn,wn,wn,w6,wb,w6,wb,wb,wb,w6,w6,w6,w6,wb,w6,w6,w6,ws,ws,w6,w6,ws,wn]⟩,
⟨40,.func,1,8,[.nilFunc]⟩,
⟨43,.ptr,1,8,[.nilPtr]⟩,
⟨44,.ptr,1,8,[.nilPtr]⟩,
⟨47,.int .i64,1,8,[w6]⟩,
⟨62,.struct [(0,9),(1,9),(2,3)],3,40,[ws,ws,w6]⟩,
⟨67,.struct [(0,24),(1,34)],17,152,[wn,w6,wb,w6,wb,wb,wb,w6,w6,w6,w6,wb,w6,w6,w6,ws,ws]⟩,
⟨75,.struct [(0,43),(1,9),(2,39)],59,656,[.nilPtr,ws,w6,w6,ws,ws,w6,wb,wb,w6,wn,w6,wn,w6,w6,wb,wb,w6,w6,ws,ws,wb,w6,ws,wb,ws,wb,ws,wb,ws,ws,w6,wb,wn,wb,w6,wn,wn,wn,w6,wb,w6,wb,wb,wb,w6,w6,w6,w6,wb,w6,w6,w6,ws,ws,w6,w6,ws,wn]⟩,
⟨76,.func,1,8,[.nilFunc]⟩,
⟨77,.map 3 76,1,8,[.nilMap]⟩,
⟨85,.slice 9,1,24,[wn]⟩,
⟨89,.ptr,1,8,[.nilPtr]⟩,
⟨92,.map 9 3,1,8,[.nilMap]⟩,
⟨93,.map 3 118,1,8,[.nilMap]⟩,
⟨94,.slice 3,1,24,[wn]⟩,
⟨96,.struct [(0,92),(1,93),(2,94),(3,3)],4,48,[.nilMap,.nilMap,wn,w6]⟩,
⟨97,.int .u32,1,4,[.int .u32 (0)]⟩,
⟨99,.struct [(0,3),(1,97),(2,9),(3,9)],4,48,[w6,.int .u32 (0),ws,ws]⟩,
⟨101,.struct [(0,9),(1,3),(2,4),(3,4),(4,3)],5,40,[ws,w6,wb,wb,w6]⟩,
⟨104,.struct [(0,3),(1,9)],2,24,[w6,ws]⟩,
⟨106,.int .u64,1,8,[w8]⟩,
⟨108,.struct [(0,3),(1,106),(2,9),(3,35)],4,56,[w6,w8,ws,wn]⟩,
⟨109,.map 9 89,1,8,[.nilMap]⟩,
⟨111,.struct [(0,109)],1,8,[.nilMap]⟩,
⟨112,.slice 152,1,24,[wn]⟩,
⟨114,.struct [(0,112)],1,24,[wn]⟩,
⟨118,.struct [(0,3),(1,9),(2,4)],3,32,[w6,ws,wb]⟩,
⟨119,.slice 118,1,24,[wn]⟩,
⟨124,.func,1,8,[.nilFunc]⟩,
⟨130,.struct [(0,40),(1,47)],2,16,[.nilFunc,w6]⟩,
⟨132,.slice 130,1,24,[wn]⟩,
⟨150,.ptr,1,8,[.nilPtr]⟩,
⟨152,.struct [(0,9),(1,119)],2,40,[ws,wn]⟩,
⟨155,.struct [(0,3),(1,3)],2,16,[w6,w6]⟩,
⟨162,.struct [(0,9)],1,16,[ws]⟩,
⟨164,.map 3 162,1,8,[.nilMap]⟩,
⟨172,.func,1,8,[.nilFunc]⟩,
⟨174,.struct [(0,3),(1,27),(2,97),(3,97)],4,40,[w6,wn,.int .u32 (0),.int .u32 (0)]⟩,
⟨178,.slice 5,1,24,[wn]⟩,
⟨182,.iface,1,16,[.nilIface]⟩,
⟨188,.struct [(0,43),(1,9)],2,24,[.nilPtr,ws]⟩,
⟨190,.struct [],0,0,[]⟩,
⟨192,.struct [(0,188)],2,24,[.nilPtr,ws]⟩,
⟨193,.struct [(0,188)],2,24,[.nilPtr,ws]⟩,
⟨196,.struct [(0,3),(1,3),(2,3),(3,3),(4,3),(5,4),(6,4),(7,4),(8,4),(9,4),(10,4),(11,4),(12,9),(13,9),(14,9),(15,9),(16,9)],17,128,[w6,w6,w6,w6,w6,wb,wb,wb,wb,wb,wb,wb,ws,ws,ws,ws,ws]⟩,
⟨199,.map 3 204,1,8,[.nilMap]⟩,
⟨202,.array 64 3,64,512,List.replicate 64 w6⟩,
⟨204,.struct [(0,3),(1,3),(2,97),(3,97)],4,24,[w6,w6,.int .u32 (0),.int .u32 (0)]⟩,
⟨210,.int .u64,1,8,[w8]⟩,
⟨211,.func,1,8,[.nilFunc]⟩,
⟨221,.array 256 4,256,256,List.replicate 256 wb⟩,
⟨233,.func,1,8,[.nilFunc]⟩,
⟨235,.func,1,8,[.nilFunc]⟩,
⟨247,.func,1,8,[.nilFunc]⟩,
⟨257,.func,1,8,[.nilFunc]⟩,
⟨258,.func,1,8,[.nilFunc]⟩,
⟨260,.struct [(0,257),(1,258)],2,16,[.nilFunc,.nilFunc]⟩,
⟨262,.map 3 260,1,8,[.nilMap]⟩,
⟨265,.struct [(0,3),(1,30)],26,320,[w6,w6,wb,wb,w6,w6,ws,ws,wb,w6,ws,wb,ws,wb,ws,wb,ws,ws,w6,wb,wn,wb,w6,wn,wn,wn]⟩,
⟨267,.slice 269,1,24,[wn]⟩,
⟨269,.struct [(0,108),(4,267),(5,3),(6,3)],7,96,[w6,w8,ws,wn,wn,w6,w6]⟩,
⟨271,.ptr,1,8,[.nilPtr]⟩,
⟨273,.struct [(0,271),(1,3),(2,34),(18,178),(19,4)],20,176,[.nilPtr,w6,w6,wb,w6,wb,wb,wb,w6,w6,w6,w6,wb,w6,w6,w6,ws,ws,wn,wb]⟩,
⟨279,.struct [(0,3),(1,3),(2,3)],3,24,[w6,w6,w6]⟩,
⟨281,.struct [(0,3),(1,279),(4,9)],5,48,[w6,w6,w6,w6,ws]⟩,
⟨285,.func,1,8,[.nilFunc]⟩,
⟨286,.map 3 285,1,8,[.nilMap]⟩,
⟨290,.struct [(0,3),(1,3),(2,3),(3,4),(4,4)],5,32,[w6,w6,w6,wb,wb]⟩,
⟨293,.ptr,1,8,[.nilPtr]⟩,
⟨294,.slice 1,1,24,[wn]⟩,
⟨299,.slice 290,1,24,[wn]⟩,
⟨302,.func,1,8,[.nilFunc]⟩,
⟨310,.struct [(0,271),(1,3)],2,16,[.nilPtr,w6]⟩,
⟨313,.func,1,8,[.nilFunc]⟩,
⟨316,.ptr,1,8,[.nilPtr]⟩,
⟨333,.array 256 5,256,256,List.replicate 256 w1⟩,
⟨335,.struct [(0,5),(1,5)],2,2,[w1,w1]⟩,
⟨336,.array 16 335,32,32,List.replicate 32 w1⟩,
⟨338,.func,1,8,[.nilFunc]⟩,
⟨342,.ptr,1,8,[.nilPtr]⟩,
⟨344,.ptr,1,8,[.nilPtr]⟩,
⟨350,.struct [(0,4),(1,3)],2,16,[wb,w6]⟩,
⟨351,.slice 350,1,24,[wn]⟩,
⟨353,.struct [(0,9),(1,3),(2,47)],3,32,[ws,w6,w6]⟩,
⟨361,.ptr,1,8,[.nilPtr]⟩,
⟨362,.struct [],0,0,[]⟩,
⟨363,.map 3 124,1,8,[.nilMap]⟩,
⟨367,.slice 313,1,24,[wn]⟩,
⟨373,.ptr,1,8,[.nilPtr]⟩,
⟨375,.struct [(0,373),(1,178)],2,32,[.nilPtr,wn]⟩,
⟨382,.array 4 106,4,32,[w8,w8,w8,w8]⟩,
⟨386,.ptr,1,8,[.nilPtr]⟩,
⟨391,.struct [(0,3),(1,3),(2,4),(3,4)],4,24,[w6,w6,wb,wb]⟩,
⟨392,.map 3 396,1,8,[.nilMap]⟩,
⟨395,.struct [(0,271),(1,99)],5,56,[.nilPtr,w6,.int .u32 (0),ws,ws]⟩,
⟨396,.func,1,8,[.nilFunc]⟩,
⟨397,.ptr,1,8,[.nilPtr]⟩,
⟨400,.int .i64,1,8,[w6]⟩,
⟨409,.ptr,1,8,[.nilPtr]⟩,
⟨414,.int .u64,1,8,[w8]⟩,
⟨421,.other,1,8,[.nilPtr]⟩]
abbrev gX:=Qu5 tyT [(227,1),(425,2)] [] []
def c3:=Qb (rfl:gX f3 []=_)
def c6:=Qb (rfl:gX f6 []=_)
def c7:=Qb (rfl:gX f7 []=_)
def c8:=Qb (rfl:gX f8 []=_)
def c9:=Qb (rfl:gX f9 []=_)
def c10:=Qb (rfl:gX f10 []=_)
def c11:=Qb (rfl:gX f11 []=_)
def c12:=Qb (rfl:gX f12 []=_)
def c13:=Qb (rfl:gX f13 []=_)
def c14:=Qb (rfl:gX f14 []=_)
def c15:CFunc:=Qb (show gX f15 [false,true,true,false,false,false,false,false,true,false,true,false,true,false,true,true,true,false,true]=_ from rfl)
def c17:=Qb (rfl:gX f17 []=_)
def c18:=Qb (rfl:gX f18 []=_)
def c19:=Qb (rfl:gX f19 []=_)
def c20:=Qb (rfl:gX f20 []=_)
def c21:=Qb (rfl:gX f21 []=_)
def c22:=Qb (rfl:gX f22 []=_)
def c23:=Qb (rfl:gX f23 []=_)
def c24:=Qb (rfl:gX f24 []=_)
def c25:=Qb (rfl:gX f25 []=_)
def c26:=Qb (rfl:gX f26 []=_)
def c27:=Qb (rfl:gX f27 []=_)
def c28:=Qb (rfl:gX f28 []=_)
def c29:=Qb (rfl:gX f29 []=_)
def c30:=Qb (rfl:gX f30 []=_)
def c31:CFunc:=Qb (show gX f31 [false,false,true]=_ from rfl)
def c32:=Qb (rfl:gX f32 []=_)
def c33:=Qb (rfl:gX f33 []=_)
def c34:=Qb (rfl:gX f34 []=_)
def c35:=Qb (rfl:gX f35 []=_)
def c36:=Qb (rfl:gX f36 []=_)
def c37:=Qb (rfl:gX f37 []=_)
def c38:=Qb (rfl:gX f38 []=_)
def c39:=Qb (rfl:gX f39 []=_)
def c40:=Qb (rfl:gX f40 []=_)
def c41:=Qb (rfl:gX f41 []=_)
def c42:=Qb (rfl:gX f42 []=_)
def c43:=Qb (rfl:gX f43 []=_)
def c44:=Qb (rfl:gX f44 []=_)
def c45:=Qb (rfl:gX f45 []=_)
def c46:=Qb (rfl:gX f46 []=_)
def c47:=Qb (rfl:gX f47 []=_)
def c48:=Qb (rfl:gX f48 []=_)
def c49:=Qb (rfl:gX f49 []=_)
def c50:=Qb (rfl:gX f50 []=_)
def c51:=Qb (rfl:gX f51 []=_)
def c52:=Qb (rfl:gX f52 []=_)
def c53:=Qb (rfl:gX f53 []=_)
def c54:=Qb (rfl:gX f54 []=_)
def c55:CFunc:=Qb (show Qu5 tyT [(227,1),(425,2)] [(42,[(190,465),(192,467),(193,469)])] [] f55 []=_ from rfl)
def c56:=Qb (rfl:gX f56 []=_)
def c57:=Qb (rfl:gX f57 []=_)
def c58:=Qb (rfl:gX f58 []=_)
def c59:=Qb (rfl:gX f59 []=_)
def c60:=Qb (rfl:gX f60 []=_)
def c61:=Qb (rfl:gX f61 []=_)
def c62:=Qb (rfl:gX f62 []=_)
def c63:=Qb (rfl:gX f63 []=_)
def c64:=Qb (rfl:gX f64 []=_)
def c65:=Qb (rfl:gX f65 []=_)
def c66:=Qb (rfl:gX f66 []=_)
def c67:=Qb (rfl:gX f67 []=_)
def c68:=Qb (rfl:gX f68 []=_)
def c69:=Qb (rfl:gX f69 []=_)
def c70:=Qb (rfl:gX f70 []=_)
def c71:=Qb (rfl:gX f71 []=_)
def c72:=Qb (rfl:gX f72 []=_)
def c73:=Qb (rfl:gX f73 []=_)
def c74:=Qb (rfl:gX f74 []=_)
def c75:=Qb (rfl:gX f75 []=_)
def c76:=Qb (rfl:gX f76 []=_)
def c77:=Qb (rfl:gX f77 []=_)
def c78:=Qb (rfl:gX f78 []=_)
def c79:=Qb (rfl:gX f79 []=_)
def c80:=Qb (rfl:gX f80 []=_)
def c81:=Qb (rfl:gX f81 []=_)
def c82:=Qb (rfl:gX f82 []=_)
def c83:=Qb (rfl:gX f83 []=_)
def c84:=Qb (rfl:gX f84 []=_)
def c85:=Qb (rfl:gX f85 []=_)
def c86:=Qb (rfl:gX f86 []=_)
def c87:=Qb (rfl:gX f87 []=_)
def c88:=Qb (rfl:gX f88 []=_)
def c89:=Qb (rfl:gX f89 []=_)
def c90:=Qb (rfl:gX f90 []=_)
def c91:CFunc:=Qb (show Qu5 tyT [(227,1),(425,2)] [(4,[(17,453),(43,457),(44,459),(94,460),(373,471)]),(7,[(94,462)]),(13,[(150,463)])] [] f91 []=_ from rfl)
def c92:=Qb (rfl:gX f92 []=_)
def c93:=Qb (rfl:gX f93 []=_)
def c94:=Qb (rfl:gX f94 []=_)
def c95:=Qb (rfl:gX f95 []=_)
def c96:=Qb (rfl:gX f96 []=_)
def c97:=Qb (rfl:gX f97 []=_)
def c98:=Qb (rfl:gX f98 []=_)
def c99:=Qb (rfl:gX f99 []=_)
def Z3r:=Qb (rfl:gX f100 []=_)
def Z5x:=Qb (rfl:gX f101 []=_)
def Z1v:=Qb (rfl:gX f102 []=_)
def Z93:=Qb (rfl:gX f103 []=_)
def Zdy:=Qb (rfl:gX f104 []=_)
def Zc8:=Qb (rfl:gX f105 []=_)
def Z31:=Qb (rfl:gX f106 []=_)
def Z90:=Qb (rfl:gX f107 []=_)
def Zdu:=Qb (rfl:gX f108 []=_)
def Z8b:=Qb (rfl:gX f109 []=_)
def Z8d:=Qb (rfl:gX f110 []=_)
def Z6r:=Qb (rfl:gX f111 []=_)
def Z9u:=Qb (rfl:gX f112 []=_)
def Zd8:=Qb (rfl:gX f113 []=_)
def Zd3:=Qb (rfl:gX f114 []=_)
def Zbn:CFunc:=Qb (show Qu5 tyT [(227,1),(425,2)] [(29,[(94,461)]),(35,[(94,461)]),(40,[(94,462)])] [] f115 []=_ from rfl)
def Z8l:=Qb (rfl:gX f116 []=_)
def Z30:=Qb (rfl:gX f117 []=_)
def Zbx:=Qb (rfl:gX f118 []=_)
def Z2g:=Qb (rfl:gX f119 []=_)
def Zcl:=Qb (rfl:gX f120 []=_)
def Z5e:=Qb (rfl:gX f121 []=_)
def Z3j:=Qb (rfl:gX f122 []=_)
def Ze4:=Qb (rfl:gX f123 []=_)
def Z8w:=Qb (rfl:gX f124 []=_)
def Zaz:=Qb (rfl:gX f125 []=_)
def Z8q:=Qb (rfl:gX f126 []=_)
def Zal:=Qb (rfl:gX f127 []=_)
def Z99:=Qb (rfl:gX f128 []=_)
def Zaa:=Qb (rfl:gX f129 []=_)
def Z63:=Qb (rfl:gX f130 []=_)
def Z4f:=Qb (rfl:gX f131 []=_)
def Z8j:=Qb (rfl:gX f132 []=_)
def Zbs:=Qb (rfl:gX f133 []=_)
def Z4l:=Qb (rfl:gX f134 []=_)
def Za8:=Qb (rfl:gX f135 []=_)
def Zbq:=Qb (rfl:gX f136 []=_)
def Z23:=Qb (rfl:gX f137 []=_)
def Zam:=Qb (rfl:gX f138 []=_)
def Zdn:=Qb (rfl:gX f139 []=_)
def Z3f:=Qb (rfl:gX f140 []=_)
def Z5g:=Qb (rfl:gX f141 []=_)
def Zb9:=Qb (rfl:gX f142 []=_)
def Zab:=Qb (rfl:gX f143 []=_)
def Z2x:=Qb (rfl:gX f144 []=_)
def Z6f:CFunc:=Qb (show gX f145 [false,true]=_ from rfl)
def Z75:=Qb (rfl:gX f146 []=_)
def Z9y:=Qb (rfl:gX f147 []=_)
def Z6e:=Qb (rfl:gX f148 []=_)
def Z7a:=Qb (rfl:gX f149 []=_)
def Z22:=Qb (rfl:gX f150 []=_)
def Zch:=Qb (rfl:gX f151 []=_)
def Z6s:=Qb (rfl:gX f152 []=_)
def Zbo:=Qb (rfl:gX f153 []=_)
def Z1w:=Qb (rfl:gX f154 []=_)
def Z2m:=Qb (rfl:gX f155 []=_)
def Z2c:=Qb (rfl:gX f156 []=_)
def Zdc:=Qb (rfl:gX f157 []=_)
def Z34:=Qb (rfl:gX f158 []=_)
def Zcb:=Qb (rfl:gX f159 []=_)
def Z7x:=Qb (rfl:gX f160 []=_)
def Z43:=Qb (rfl:gX f161 []=_)
def Z83:=Qb (rfl:gX f162 []=_)
def Z32:=Qb (rfl:gX f163 []=_)
def Z2t:=Qb (rfl:gX f164 []=_)
def Z4p:=Qb (rfl:gX f165 []=_)
def Z6q:=Qb (rfl:gX f166 []=_)
def Z5p:=Qb (rfl:gX f167 []=_)
def Zdr:=Qb (rfl:gX f168 []=_)
def Z35:=Qb (rfl:gX f169 []=_)
def Zci:=Qb (rfl:gX f170 []=_)
def Z2k:=Qb (rfl:gX f171 []=_)
def Z6p:=Qb (rfl:gX f172 []=_)
def Z9n:=Qb (rfl:gX f173 []=_)
def Zc5:=Qb (rfl:gX f174 []=_)
def Z56:=Qb (rfl:gX f175 []=_)
def Z65:=Qb (rfl:gX f176 []=_)
def Z3y:=Qb (rfl:gX f177 []=_)
def Z8m:=Qb (rfl:gX f178 []=_)
def Za1:=Qb (rfl:gX f179 []=_)
def Z24:=Qb (rfl:gX f180 []=_)
def Zdv:=Qb (rfl:gX f181 []=_)
def Z6g:=Qb (rfl:gX f182 []=_)
def Z3b:=Qb (rfl:gX f183 []=_)
def Z2u:=Qb (rfl:gX f184 []=_)
def Zc0:=Qb (rfl:gX f186 []=_)
def Zcs:=Qb (rfl:gX f187 []=_)
def Z2a:CFunc:=Qb (show gX f188 [false,true,true,false,false,true,true]=_ from rfl)
def Z48:CFunc:=Qb (show gX f189 [false,false,true,true,true]=_ from rfl)
def Z3c:=Qb (rfl:gX f190 []=_)
def Zb8:=Qb (rfl:gX f191 []=_)
def Z57:=Qb (rfl:gX f192 []=_)
def Zcq:=Qb (rfl:gX f193 []=_)
def Z8t:=Qb (rfl:gX f194 []=_)
def Z1u:=Qb (rfl:gX f195 []=_)
def Z84:=Qb (rfl:gX f196 []=_)
def Z3w:=Qb (rfl:gX f197 []=_)
def Zc4:=Qb (rfl:gX f198 []=_)
def Z8u:=Qb (rfl:gX f199 []=_)
def Zdp:=Qb (rfl:gX f200 []=_)
def Zbi:=Qb (rfl:gX f201 []=_)
def Zaf:=Qb (rfl:gX f202 []=_)
def Z3g:=Qb (rfl:gX f203 []=_)
def Z9w:=Qb (rfl:gX f204 []=_)
def Z6i:=Qb (rfl:gX f205 []=_)
def Z1t:=Qb (rfl:gX f206 []=_)
def Zbf:=Qb (rfl:gX f207 []=_)
def Zbr:=Qb (rfl:gX f208 []=_)
def Z6c:=Qb (rfl:gX f209 []=_)
def Z5k:=Qb (rfl:gX f210 []=_)
def Zb3:=Qb (rfl:gX f211 []=_)
def Z97:=Qb (rfl:gX f212 []=_)
def Zb1:=Qb (rfl:gX f213 []=_)
def Z89:=Qb (rfl:gX f214 []=_)
def Z6d:=Qb (rfl:gX f215 []=_)
def Zau:=Qb (rfl:gX f216 []=_)
def Z53:=Qb (rfl:gX f217 []=_)
def Z37:CFunc:=Qb (show gX f218 [false,false,false,false,false,true,true,false,false,true,false,true,false,true,false,true,false,true,false,true]=_ from rfl)
def Zcf:=Qb (rfl:gX f219 []=_)
def Z72:=Qb (rfl:gX f220 []=_)
def Z28:=Qb (rfl:gX f221 []=_)
def Z3h:=Qb (rfl:gX f222 []=_)
def Z87:=Qb (rfl:gX f223 []=_)
def Z26:=Qb (rfl:gX f224 []=_)
def Z6z:=Qb (rfl:gX f225 []=_)
def Z39:=Qb (rfl:gX f226 []=_)
def Z3l:=Qb (rfl:gX f228 []=_)
def Z67:=Qb (rfl:gX f229 []=_)
def Z5c:=Qb (rfl:gX f230 []=_)
def Zbw:=Qb (rfl:gX f231 []=_)
def Z6j:=Qb (rfl:gX f232 []=_)
def Z7i:=Qb (rfl:gX f233 []=_)
def Zcw:=Qb (rfl:gX f234 []=_)
def Zcx:=Qb (rfl:gX f235 []=_)
def Zdx:=Qb (rfl:gX f236 []=_)
def Z94:=Qb (rfl:gX f237 []=_)
def Z7z:=Qb (rfl:gX f238 []=_)
def Zco:=Qb (rfl:gX f239 []=_)
def Z6x:=Qb (rfl:gX f240 []=_)
def Z5d:=Qb (rfl:gX f241 []=_)
def Zb4:=Qb (rfl:gX f242 []=_)
def Ze5:=Qb (rfl:gX f243 []=_)
def Zc1:=Qb (rfl:gX f244 []=_)
def Z8r:=Qb (rfl:gX f245 []=_)
def Z7s:=Qb (rfl:gX f246 []=_)
def Ze7:=Qb (rfl:gX f247 []=_)
def Zbu:=Qb (rfl:gX f248 []=_)
def Z91:=Qb (rfl:gX f249 []=_)
def Z46:=Qb (rfl:gX f250 []=_)
def Z8i:=Qb (rfl:gX f251 []=_)
def Z8y:=Qb (rfl:gX f252 []=_)
def Za7:=Qb (rfl:gX f253 []=_)
def Z9l:=Qb (rfl:gX f254 []=_)
def Zdg:=Qb (rfl:gX f255 []=_)
def Z59:=Qb (rfl:gX f256 []=_)
def Z2o:CFunc:=Qb (show gX f257 [false,false,false,false,false,false,true]=_ from rfl)
def Z2f:=Qb (rfl:gX f258 []=_)
def Z77:=Qb (rfl:gX f259 []=_)
def Z8c:=Qb (rfl:gX f260 []=_)
def Z6v:=Qb (rfl:gX f261 []=_)
def Z85:=Qb (rfl:gX f262 []=_)
def Z2i:=Qb (rfl:gX f263 []=_)
def Z8s:=Qb (rfl:gX f264 []=_)
def Z6y:=Qb (rfl:gX f265 []=_)
def Z5a:=Qb (rfl:gX f266 []=_)
def Z4g:=Qb (rfl:gX f267 []=_)
def Zdq:=Qb (rfl:gX f268 []=_)
def Z51:=Qb (rfl:gX f269 []=_)
def Z7j:=Qb (rfl:gX f270 []=_)
def Z4d:=Qb (rfl:gX f271 []=_)
def Z4s:=Qb (rfl:gX f272 []=_)
def Z5n:=Qb (rfl:gX f273 []=_)
def Z2v:=Qb (rfl:gX f274 []=_)
def Z78:=Qb (rfl:gX f275 []=_)
def Z8p:=Qb (rfl:gX f276 []=_)
def Z5r:=Qb (rfl:gX f277 []=_)
def Z8x:=Qb (rfl:gX f278 []=_)
def Ze0:=Qb (rfl:gX f279 []=_)
def Z5t:=Qb (rfl:gX f280 []=_)
def Z66:=Qb (rfl:gX f281 []=_)
def Zdm:=Qb (rfl:gX f282 []=_)
def Zbe:=Qb (rfl:gX f283 []=_)
def Zb0:=Qb (rfl:gX f284 []=_)
def Z29:=Qb (rfl:gX f285 []=_)
def Ze1:=Qb (rfl:gX f286 []=_)
def Z5v:=Qb (rfl:gX f287 []=_)
def Zar:=Qb (rfl:gX f288 []=_)
def Zda:=Qb (rfl:gX f289 []=_)
def Z5o:=Qb (rfl:gX f290 []=_)
def Z4z:=Qb (rfl:gX f291 []=_)
def Z5z:=Qb (rfl:gX f292 []=_)
def Zd0:=Qb (rfl:gX f293 []=_)
def Zd9:=Qb (rfl:gX f294 []=_)
def Zcu:=Qb (rfl:gX f295 []=_)
def Z8g:=Qb (rfl:gX f296 []=_)
def Z21:=Qb (rfl:gX f297 []=_)
def Z70:=Qb (rfl:gX f298 []=_)
def Z95:=Qb (rfl:gX f299 []=_)
def Z2b:=Qb (rfl:gX f300 []=_)
def Z3p:=Qb (rfl:gX f301 []=_)
def Z6u:=Qb (rfl:gX f302 []=_)
def Z52:=Qb (rfl:gX f303 []=_)
def Z5s:=Qb (rfl:gX f304 []=_)
def Zaj:=Qb (rfl:gX f305 []=_)
def Z2z:=Qb (rfl:gX f306 []=_)
def Z9r:=Qb (rfl:gX f307 []=_)
def Zdj:=Qb (rfl:gX f308 []=_)
def Zd6:=Qb (rfl:gX f309 []=_)
def Z9q:=Qb (rfl:gX f310 []=_)
def Zcj:=Qb (rfl:gX f311 []=_)
def Z9v:=Qb (rfl:gX f312 []=_)
def Z3e:=Qb (rfl:gX f313 []=_)
def Z6t:=Qb (rfl:gX f314 []=_)
def Z27:=Qb (rfl:gX f315 []=_)
def Z7p:=Qb (rfl:gX f316 []=_)
def Zdt:=Qb (rfl:gX f317 []=_)
def Zd2:=Qb (rfl:gX f318 []=_)
def Z92:=Qb (rfl:gX f319 []=_)
def Zdi:=Qb (rfl:gX f320 []=_)
def Z3d:=Qb (rfl:gX f321 []=_)
def Z9j:=Qb (rfl:gX f322 []=_)
def Z62:=Qb (rfl:gX f323 []=_)
def Z1z:=Qb (rfl:gX f324 []=_)
def Zc6:=Qb (rfl:gX f325 []=_)
def Z8k:=Qb (rfl:gX f326 []=_)
def Z96:=Qb (rfl:gX f327 []=_)
def Z54:=Qb (rfl:gX f328 []=_)
def Z80:=Qb (rfl:gX f329 []=_)
def Zdo:=Qb (rfl:gX f330 []=_)
def Zcy:=Qb (rfl:gX f331 []=_)
def Z81:=Qb (rfl:gX f332 []=_)
def Za2:=Qb (rfl:gX f333 []=_)
def Zaw:=Qb (rfl:gX f334 []=_)
def Z9h:=Qb (rfl:gX f335 []=_)
def Zag:=Qb (rfl:gX f336 []=_)
def Ze9:=Qb (rfl:gX f337 []=_)
def Z5j:=Qb (rfl:gX f338 []=_)
def Z7u:=Qb (rfl:gX f339 []=_)
def Z9t:=Qb (rfl:gX f340 []=_)
def Z4u:=Qb (rfl:gX f341 []=_)
def Ze8:=Qb (rfl:gX f342 []=_)
def Z7n:=Qb (rfl:gX f343 []=_)
def Zbz:=Qb (rfl:gX f344 []=_)
def Z4a:=Qb (rfl:gX f345 []=_)
def Z9e:=Qb (rfl:gX f346 []=_)
def Z7r:=Qb (rfl:gX f347 []=_)
def Za5:=Qb (rfl:gX f348 []=_)
def Zbk:=Qb (rfl:gX f349 []=_)
def Z4e:=Qb (rfl:gX f350 []=_)
def Z9m:=Qb (rfl:gX f351 []=_)
def Zd5:=Qb (rfl:gX f352 []=_)
def Zay:=Qb (rfl:gX f353 []=_)
def Z3t:=Qb (rfl:gX f354 []=_)
def Z71:=Qb (rfl:gX f355 []=_)
def Z7b:=Qb (rfl:gX f356 []=_)
def Z7w:=Qb (rfl:gX f357 []=_)
def Zdk:=Qb (rfl:gX f358 []=_)
def Zdd:=Qb (rfl:gX f359 []=_)
def Zas:=Qb (rfl:gX f360 []=_)
def Zca:=Qb (rfl:gX f361 []=_)
def Z9d:=Qb (rfl:gX f362 []=_)
def Zcc:=Qb (rfl:gX f363 []=_)
def Z64:=Qb (rfl:gX f364 []=_)
def Za0:=Qb (rfl:gX f365 []=_)
def Z4c:=Qb (rfl:gX f366 []=_)
def Z3n:=Qb (rfl:gX f367 []=_)
def Z5l:=Qb (rfl:gX f368 []=_)
def Z6m:=Qb (rfl:gX f369 []=_)
def Z9z:=Qb (rfl:gX f370 []=_)
def Zaq:=Qb (rfl:gX f371 []=_)
def Z7c:=Qb (rfl:gX f372 []=_)
def Z4o:=Qb (rfl:gX f373 []=_)
def Z45:=Qb (rfl:gX f374 []=_)
def Z4y:=Qb (rfl:gX f375 []=_)
def Z7o:=Qb (rfl:gX f376 []=_)
def Zds:=Qb (rfl:gX f377 []=_)
def Zcd:=Qb (rfl:gX f378 []=_)
def Z2p:=Qb (rfl:gX f379 []=_)
def Z4q:=Qb (rfl:gX f380 []=_)
def Z4v:=Qb (rfl:gX f381 []=_)
def Z6n:=Qb (rfl:gX f382 []=_)
def Za4:=Qb (rfl:gX f383 []=_)
def Zah:=Qb (rfl:gX f384 []=_)
def Z4i:=Qb (rfl:gX f385 []=_)
def Zb5:=Qb (rfl:gX f386 []=_)
def Zbj:=Qb (rfl:gX f387 []=_)
def Z7l:=Qb (rfl:gX f388 []=_)
def Z3i:=Qb (rfl:gX f389 []=_)
def Zdl:=Qb (rfl:gX f390 []=_)
def Ze3:=Qb (rfl:gX f391 []=_)
def Z1x:=Qb (rfl:gX f392 []=_)
def Z44:=Qb (rfl:gX f393 []=_)
def Zbv:=Qb (rfl:gX f394 []=_)
def Z82:=Qb (rfl:gX f395 []=_)
def Zbp:=Qb (rfl:gX f396 []=_)
def Z49:=Qb (rfl:gX f397 []=_)
def Z7t:=Qb (rfl:gX f398 []=_)
def Zdb:=Qb (rfl:gX f399 []=_)
def Z33:CFunc:=Qb (show gX f400 [false,false,true]=_ from rfl)
def Zav:=Qb (rfl:gX f401 []=_)
def Z9k:=Qb (rfl:gX f402 []=_)
def Ze6:=Qb (rfl:gX f403 []=_)
def Zbl:=Qb (rfl:gX f404 []=_)
def Z3m:=Qb (rfl:gX f405 []=_)
def Z9s:=Qb (rfl:gX f406 []=_)
def Z3k:=Qb (rfl:gX f407 []=_)
def Zcz:=Qb (rfl:gX f408 []=_)
def Zad:=Qb (rfl:gX f409 []=_)
def Zbg:=Qb (rfl:gX f410 []=_)
def Zck:=Qb (rfl:gX f411 []=_)
def Zcp:=Qb (rfl:gX f412 []=_)
def Zb6:=Qb (rfl:gX f413 []=_)
def Zcv:=Qb (rfl:gX f414 []=_)
def Z73:=Qb (rfl:gX f415 []=_)
def Zai:=Qb (rfl:gX f416 []=_)
def Z61:=Qb (rfl:gX f417 []=_)
def Z4n:=Qb (rfl:gX f418 []=_)
def Z79:=Qb (rfl:gX f419 []=_)
def Zbc:=Qb (rfl:gX f420 []=_)
def Zac:=Qb (rfl:gX f421 []=_)
def Z25:=Qb (rfl:gX f422 []=_)
def Z4r:=Qb (rfl:gX f423 []=_)
def Z2n:=Qb (rfl:gX f424 []=_)
def Zb2:=Qb (rfl:gX f426 []=_)
def Z8a:=Qb (rfl:gX f429 []=_)
def Z5q:=Qb (rfl:gX f430 []=_)
def Zbm:=Qb (rfl:gX f431 []=_)
def Z9p:=Qb (rfl:gX f432 []=_)
def Z8e:=Qb (rfl:gX f433 []=_)
def Z8z:=Qb (rfl:gX f434 []=_)
def Z6h:=Qb (rfl:gX f435 []=_)
def Z9g:=Qb (rfl:gX f436 []=_)
def Z7e:=Qb (rfl:gX f437 []=_)
def Z7v:=Qb (rfl:gX f438 []=_)
def Z4w:=Qb (rfl:gX f439 []=_)
def Z47:=Qb (rfl:gX f457 []=_)
def Zak:=Qb (rfl:gX f459 []=_)
def Z41:=Qb (rfl:gX f460 []=_)
def Ze2:=Qb (rfl:gX f461 []=_)
def Z4j:=Qb (rfl:gX f462 []=_)
def Zdz:=Qb (rfl:gX f463 []=_)
def Z6k:=Qb (rfl:gX f464 []=_)
def Z1y:=Qb (rfl:gX f465 []=_)
def Zcn:=Qb (rfl:gX f467 []=_)
def Z5h:=Qb (rfl:gX f469 []=_)
def Z2s:=Qb (rfl:gX f471 []=_)
def Qyy:List (Option CFunc) := [none,none,none,some c3,none,none,some c6,some c7,some c8,some c9,some c10,some c11,some c12,some c13,some c14,some c15,none,some c17,some c18,some c19,some c20,some c21,some c22,some c23,some c24,some c25,some c26,some c27,some c28,some c29,some c30,some c31,some c32,some c33,some c34,some c35,some c36,some c37,some c38,some c39,some c40,some c41,some c42,some c43,some c44,some c45,some c46,some c47,some c48,some c49,some c50,some c51,some c52,some c53,some c54,some c55,some c56,some c57,some c58,some c59,some c60,some c61,some c62,some c63,some c64,some c65,some c66,some c67,some c68,some c69,some c70,some c71,some c72,some c73,some c74,some c75,some c76,some c77,some c78,some c79,some c80,some c81,some c82,some c83,some c84,some c85,some c86,some c87,some c88,some c89,some c90,some c91,some c92,some c93,some c94,some c95,some c96,some c97,some c98,some c99,some Z3r,some Z5x,some Z1v,some Z93,some Zdy,some Zc8,some Z31,some Z90,some Zdu,some Z8b,some Z8d,some Z6r,some Z9u,some Zd8,some Zd3,some Zbn,some Z8l,some Z30,some Zbx,some Z2g,some Zcl,some Z5e,some Z3j,some Ze4,some Z8w,some Zaz,some Z8q,some Zal,some Z99,some Zaa,some Z63,some Z4f,some Z8j,some Zbs,some Z4l,some Za8,some Zbq,some Z23,some Zam,some Zdn,some Z3f,some Z5g,some Zb9,some Zab,some Z2x,some Z6f,some Z75,some Z9y,some Z6e,some Z7a,some Z22,some Zch,some Z6s,some Zbo,some Z1w,some Z2m,some Z2c,some Zdc,some Z34,some Zcb,some Z7x,some Z43,some Z83,some Z32,some Z2t,some Z4p,some Z6q,some Z5p,some Zdr,some Z35,some Zci,some Z2k,some Z6p,some Z9n,some Zc5,some Z56,some Z65,some Z3y,some Z8m,some Za1,some Z24,some Zdv,some Z6g,some Z3b,some Z2u,none,some Zc0,some Zcs,some Z2a,some Z48,some Z3c,some Zb8,some Z57,some Zcq,some Z8t,some Z1u,some Z84,some Z3w,some Zc4,some Z8u,some Zdp,some Zbi,some Zaf,some Z3g,some Z9w,some Z6i,some Z1t,some Zbf,some Zbr,some Z6c,some Z5k,some Zb3,some Z97,some Zb1,some Z89,some Z6d,some Zau,some Z53,some Z37,some Zcf,some Z72,some Z28,some Z3h,some Z87,some Z26,some Z6z,some Z39,none,some Z3l,some Z67,some Z5c,some Zbw,some Z6j,some Z7i,some Zcw,some Zcx,some Zdx,some Z94,some Z7z,some Zco,some Z6x,some Z5d,some Zb4,some Ze5,some Zc1,some Z8r,some Z7s,some Ze7,some Zbu,some Z91,some Z46,some Z8i,some Z8y,some Za7,some Z9l,some Zdg,some Z59,some Z2o,some Z2f,some Z77,some Z8c,some Z6v,some Z85,some Z2i,some Z8s,some Z6y,some Z5a,some Z4g,some Zdq,some Z51,some Z7j,some Z4d,some Z4s,some Z5n,some Z2v,some Z78,some Z8p,some Z5r,some Z8x,some Ze0,some Z5t,some Z66,some Zdm,some Zbe,some Zb0,some Z29,some Ze1,some Z5v,some Zar,some Zda,some Z5o,some Z4z,some Z5z,some Zd0,some Zd9,some Zcu,some Z8g,some Z21,some Z70,some Z95,some Z2b,some Z3p,some Z6u,some Z52,some Z5s,some Zaj,some Z2z,some Z9r,some Zdj,some Zd6,some Z9q,some Zcj,some Z9v,some Z3e,some Z6t,some Z27,some Z7p,some Zdt,some Zd2,some Z92,some Zdi,some Z3d,some Z9j,some Z62,some Z1z,some Zc6,some Z8k,some Z96,some Z54,some Z80,some Zdo,some Zcy,some Z81,some Za2,some Zaw,some Z9h,some Zag,some Ze9,some Z5j,some Z7u,some Z9t,some Z4u,some Ze8,some Z7n,some Zbz,some Z4a,some Z9e,some Z7r,some Za5,some Zbk,some Z4e,some Z9m,some Zd5,some Zay,some Z3t,some Z71,some Z7b,some Z7w,some Zdk,some Zdd,some Zas,some Zca,some Z9d,some Zcc,some Z64,some Za0,some Z4c,some Z3n,some Z5l,some Z6m,some Z9z,some Zaq,some Z7c,some Z4o,some Z45,some Z4y,some Z7o,some Zds,some Zcd,some Z2p,some Z4q,some Z4v,some Z6n,some Za4,some Zah,some Z4i,some Zb5,some Zbj,some Z7l,some Z3i,some Zdl,some Ze3,some Z1x,some Z44,some Zbv,some Z82,some Zbp,some Z49,some Z7t,some Zdb,some Z33,some Zav,some Z9k,some Ze6,some Zbl,some Z3m,some Z9s,some Z3k,some Zcz,some Zad,some Zbg,some Zck,some Zcp,some Zb6,some Zcv,some Z73,some Zai,some Z61,some Z4n,some Z79,some Zbc,some Zac,some Z25,some Z4r,some Z2n,none,some Zb2,none,none,some Z8a,some Z5q,some Zbm,some Z9p,some Z8e,some Z8z,some Z6h,some Z9g,some Z7e,some Z7v,some Z4w,none,none,none,none,none,none,none,none,none,none,none,none,none,none,none,none,none,some Z47,none,some Zak,some Z41,some Ze2,some Z4j,some Zdz,some Z6k,some Z1y,none,some Zcn,none,some Z5h,none,some Z2s]
end
end Go.Av
