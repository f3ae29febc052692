/- Part of the proof of CrossRound: for every input the law returns true; no condition. -/
import Derived.Test.YtaokaobiihpkbaaGreatDoorAvGen
import Derived.Test.YtaokaobiihpkbaaGreatDoorProg
set_option linter.all false
namespace Go.Av
open Go.Proofs.Tryz
noncomputable section
open Go.Proofs
set_option maxRecDepth 100000
abbrev w6:PV := .int .i64 0
abbrev wb:PV := .bool false
abbrev w1:PV := .int .u8 0
abbrev w8:PV := .int .u64 0
abbrev ws:PV := .str []
abbrev wn:PV := .nilSlice
def tyT:List TI := [⟨1,.func,1,8,[.nilFunc]⟩,
⟨2,.int .i64,1,8,[w6]⟩,
⟨3,.int .i64,1,8,[w6]⟩,
⟨4,.bool,1,1,[wb]⟩,
⟨5,.int .u8,1,1,[w1]⟩,
⟨9,.str,1,16,[ws]⟩,
⟨12,.int .u64,1,8,[w8]⟩,
⟨21,.int .i32,1,4,[.int .i32 (0)]⟩,
⟨22,.slice 62,1,24,[wn]⟩,
⟨23,.slice 99,1,24,[wn]⟩,
⟨24,.slice 104,1,24,[wn]⟩,
⟨26,.struct [(0,9),(1,9),(2,3),(3,4),(4,23)],5,72,[ws,ws,w6,wb,wn]⟩,
⟨27,.slice 3,1,24,[wn]⟩,
⟨28,.slice 101,1,24,[wn]⟩,
⟨30,.struct [(0,3),(1,4),(2,4),(3,3),(4,3),(5,9),(6,9),(7,4),(8,3),(9,9),(10,4),(11,9),(12,4),(13,9),(14,4),(15,26),(20,4),(21,3),(22,27),(23,28),(24,23)],25,312,[w6,wb,wb,w6,w6,ws,ws,wb,w6,ws,wb,ws,wb,ws,wb,ws,ws,w6,wb,wn,wb,w6,wn,wn,wn]⟩,
⟨32,.struct [(0,4),(1,3),(2,4),(3,4),(4,4),(5,3)],6,32,[wb,w6,wb,wb,wb,w6]⟩,
⟨34,.struct [(0,3),(1,32),(7,3),(8,3),(9,3),(10,4),(11,3),(12,3),(13,3),(14,9),(15,9)],16,128,[w6,wb,w6,wb,wb,wb,w6,w6,w6,w6,wb,w6,w6,w6,ws,ws]⟩,
⟨35,.slice 108,1,24,[wn]⟩,
⟨37,.struct [(0,3),(1,3),(2,9),(3,35)],4,56,[w6,w6,ws,wn]⟩,
⟨39,.struct [(0,3),(1,3),(2,9),(3,9),(4,3),(5,4),(6,4),(7,3),(8,23),(9,3),(10,24),(11,3),(12,30),(37,34),(53,37)],57,632,[w6,w6,ws,ws,w6,wb,wb,w6,wn,w6,wn,w6,w6,wb,wb,w6,w6,ws,ws,wb,w6,ws,wb,ws,wb,ws,wb,ws,ws,w6,wb,wn,wb,w6,wn,wn,wn,w6,wb,w6,wb,wb,wb,w6,w6,w6,w6,wb,w6,w6,w6,ws,ws,w6,w6,ws,wn]⟩,
⟨40,.func,1,8,[.nilFunc]⟩,
⟨43,.ptr,1,8,[.nilPtr]⟩,
⟨44,.ptr,1,8,[.nilPtr]⟩,
⟨47,.int .i64,1,8,[w6]⟩,
⟨62,.struct [(0,9),(1,9),(2,3)],3,40,[ws,ws,w6]⟩,
⟨67,.struct [(0,24),(1,34)],17,152,[wn,w6,wb,w6,wb,wb,wb,w6,w6,w6,w6,wb,w6,w6,w6,ws,ws]⟩,
⟨75,.struct [(0,43),(1,9),(2,39)],59,656,[.nilPtr,ws,w6,w6,ws,ws,w6,wb,wb,w6,wn,w6,wn,w6,w6,wb,wb,w6,w6,ws,ws,wb,w6,ws,wb,ws,wb,ws,wb,ws,ws,w6,wb,wn,wb,w6,wn,wn,wn,w6,wb,w6,wb,wb,wb,w6,w6,w6,w6,wb,w6,w6,w6,ws,ws,w6,w6,ws,wn]⟩,
⟨76,.func,1,8,[.nilFunc]⟩,
⟨77,.map 3 76,1,8,[.nilMap]⟩,
⟨85,.slice 9,1,24,[wn]⟩,
⟨89,.ptr,1,8,[.nilPtr]⟩,
⟨92,.map 9 3,1,8,[.nilMap]⟩,
⟨93,.map 3 118,1,8,[.nilMap]⟩,
⟨94,.slice 3,1,24,[wn]⟩,
⟨96,.struct [(0,92),(1,93),(2,94),(3,3)],4,48,[.nilMap,.nilMap,wn,w6]⟩,
⟨97,.int .u32,1,4,[.int .u32 (0)]⟩,
⟨99,.struct [(0,3),(1,97),(2,9),(3,9)],4,48,[w6,.int .u32 (0),ws,ws]⟩,
⟨101,.struct [(0,9),(1,3),(2,4),(3,4),(4,3)],5,40,[ws,w6,wb,wb,w6]⟩,
⟨104,.struct [(0,3),(1,9)],2,24,[w6,ws]⟩,
⟨106,.int .u64,1,8,[w8]⟩,
⟨108,.struct [(0,3),(1,106),(2,9),(3,35)],4,56,[w6,w8,ws,wn]⟩,
⟨109,.map 9 89,1,8,[.nilMap]⟩,
⟨111,.struct [(0,109)],1,8,[.nilMap]⟩,
⟨112,.slice 152,1,24,[wn]⟩,
⟨114,.struct [(0,112)],1,24,[wn]⟩,
⟨118,.struct [(0,3),(1,9),(2,4)],3,32,[w6,ws,wb]⟩,
⟨119,.slice 118,1,24,[wn]⟩,
⟨124,.func,1,8,[.nilFunc]⟩,
⟨130,.struct [(0,40),(1,47)],2,16,[.nilFunc,w6]⟩,
⟨132,.slice 130,1,24,[wn]⟩,
⟨150,.ptr,1,8,[.nilPtr]⟩,
⟨152,.struct [(0,9),(1,119)],2,40,[ws,wn]⟩,
⟨155,.struct [(0,3),(1,3)],2,16,[w6,w6]⟩,
⟨162,.struct [(0,9)],1,16,[ws]⟩,
⟨164,.map 3 162,1,8,[.nilMap]⟩,
⟨172,.func,1,8,[.nilFunc]⟩,
⟨174,.struct [(0,3),(1,27),(2,97),(3,97)],4,40,[w6,wn,.int .u32 (0),.int .u32 (0)]⟩,
⟨178,.slice 5,1,24,[wn]⟩,
⟨182,.iface,1,16,[.nilIface]⟩,
⟨188,.struct [(0,43),(1,9)],2,24,[.nilPtr,ws]⟩,
⟨190,.struct [],0,0,[]⟩,
⟨192,.struct [(0,188)],2,24,[.nilPtr,ws]⟩,
⟨193,.struct [(0,188)],2,24,[.nilPtr,ws]⟩,
⟨196,.struct [(0,3),(1,3),(2,3),(3,3),(4,3),(5,4),(6,4),(7,4),(8,4),(9,4),(10,4),(11,4),(12,9),(13,9),(14,9),(15,9),(16,9)],17,128,[w6,w6,w6,w6,w6,wb,wb,wb,wb,wb,wb,wb,ws,ws,ws,ws,ws]⟩,
⟨199,.map 3 204,1,8,[.nilMap]⟩,
⟨202,.array 64 3,64,512,List.replicate 64 w6⟩,
⟨204,.struct [(0,3),(1,3),(2,97),(3,97)],4,24,[w6,w6,.int .u32 (0),.int .u32 (0)]⟩,
⟨210,.int .u64,1,8,[w8]⟩,
⟨211,.func,1,8,[.nilFunc]⟩,
⟨221,.array 256 4,256,256,List.replicate 256 wb⟩,
⟨233,.func,1,8,[.nilFunc]⟩,
⟨235,.func,1,8,[.nilFunc]⟩,
⟨247,.func,1,8,[.nilFunc]⟩,
⟨257,.func,1,8,[.nilFunc]⟩,
⟨258,.func,1,8,[.nilFunc]⟩,
⟨260,.struct [(0,257),(1,258)],2,16,[.nilFunc,.nilFunc]⟩,
⟨262,.map 3 260,1,8,[.nilMap]⟩,
⟨265,.struct [(0,3),(1,30)],26,320,[w6,w6,wb,wb,w6,w6,ws,ws,wb,w6,ws,wb,ws,wb,ws,wb,ws,ws,w6,wb,wn,wb,w6,wn,wn,wn]⟩,
⟨267,.slice 269,1,24,[wn]⟩,
⟨269,.struct [(0,108),(4,267),(5,3),(6,3)],7,96,[w6,w8,ws,wn,wn,w6,w6]⟩,
⟨271,.ptr,1,8,[.nilPtr]⟩,
⟨273,.struct [(0,271),(1,3),(2,34),(18,178),(19,4)],20,176,[.nilPtr,w6,w6,wb,w6,wb,wb,wb,w6,w6,w6,w6,wb,w6,w6,w6,ws,ws,wn,wb]⟩,
⟨279,.struct [(0,3),(1,3),(2,3)],3,24,[w6,w6,w6]⟩,
⟨281,.struct [(0,3),(1,279),(4,9)],5,48,[w6,w6,w6,w6,ws]⟩,
⟨285,.func,1,8,[.nilFunc]⟩,
⟨286,.map 3 285,1,8,[.nilMap]⟩,
⟨290,.struct [(0,3),(1,3),(2,3),(3,4),(4,4)],5,32,[w6,w6,w6,wb,wb]⟩,
⟨293,.ptr,1,8,[.nilPtr]⟩,
⟨294,.slice 1,1,24,[wn]⟩,
⟨299,.slice 290,1,24,[wn]⟩,
⟨302,.func,1,8,[.nilFunc]⟩,
⟨310,.struct [(0,271),(1,3)],2,16,[.nilPtr,w6]⟩,
⟨313,.func,1,8,[.nilFunc]⟩,
⟨316,.ptr,1,8,[.nilPtr]⟩,
⟨333,.array 256 5,256,256,List.replicate 256 w1⟩,
⟨335,.struct [(0,5),(1,5)],2,2,[w1,w1]⟩,
⟨336,.array 16 335,32,32,List.replicate 32 w1⟩,
⟨338,.func,1,8,[.nilFunc]⟩,
⟨342,.ptr,1,8,[.nilPtr]⟩,
⟨344,.ptr,1,8,[.nilPtr]⟩,
⟨350,.struct [(0,4),(1,3)],2,16,[wb,w6]⟩,
⟨351,.slice 350,1,24,[wn]⟩,
⟨353,.struct [(0,9),(1,3),(2,47)],3,32,[ws,w6,w6]⟩,
⟨361,.ptr,1,8,[.nilPtr]⟩,
⟨362,.struct [],0,0,[]⟩,
⟨363,.map 3 124,1,8,[.nilMap]⟩,
⟨367,.slice 313,1,24,[wn]⟩,
⟨373,.ptr,1,8,[.nilPtr]⟩,
⟨375,.struct [(0,373),(1,178)],2,32,[.nilPtr,wn]⟩,
⟨382,.array 4 106,4,32,[w8,w8,w8,w8]⟩,
⟨386,.ptr,1,8,[.nilPtr]⟩,
⟨391,.struct [(0,3),(1,3),(2,4),(3,4)],4,24,[w6,w6,wb,wb]⟩,
⟨392,.map 3 396,1,8,[.nilMap]⟩,
⟨395,.struct [(0,271),(1,99)],5,56,[.nilPtr,w6,.int .u32 (0),ws,ws]⟩,
⟨396,.func,1,8,[.nilFunc]⟩,
⟨397,.ptr,1,8,[.nilPtr]⟩,
⟨400,.int .i64,1,8,[w6]⟩,
⟨409,.ptr,1,8,[.nilPtr]⟩,
⟨414,.int .u64,1,8,[w8]⟩,
⟨421,.other,1,8,[.nilPtr]⟩]
abbrev gX:=Qsg tyT [(227,1),(425,2)] [] []
def c4:CFunc:=Qd (show gX f4 []=_ from rfl)
def c6:CFunc:=Qd (show gX f6 []=_ from rfl)
def c7:CFunc:=Qd (show gX f7 []=_ from rfl)
def c9:CFunc:=Qd (show gX f9 []=_ from rfl)
def c10:CFunc:=Qd (show gX f10 []=_ from rfl)
def c11:CFunc:=Qd (show gX f11 []=_ from rfl)
def c12:CFunc:=Qd (show gX f12 []=_ from rfl)
def c15:CFunc:=Qd (show gX f15 [false,true,true,false,false,false,false,false,true,false,true,false,true,false,true,true,true,false,true]=_ from rfl)
def c16:CFunc:=Qd (show gX f16 []=_ from rfl)
def c17:CFunc:=Qd (show gX f17 []=_ from rfl)
def c18:CFunc:=Qd (show gX f18 []=_ from rfl)
def c23:CFunc:=Qd (show gX f23 []=_ from rfl)
def c24:CFunc:=Qd (show gX f24 []=_ from rfl)
def c25:CFunc:=Qd (show gX f25 []=_ from rfl)
def c26:CFunc:=Qd (show gX f26 []=_ from rfl)
def c27:CFunc:=Qd (show gX f27 []=_ from rfl)
def c28:CFunc:=Qd (show gX f28 []=_ from rfl)
def c29:CFunc:=Qd (show gX f29 []=_ from rfl)
def c30:CFunc:=Qd (show gX f30 []=_ from rfl)
def c31:CFunc:=Qd (show gX f31 [false,false,true]=_ from rfl)
def c32:CFunc:=Qd (show gX f32 []=_ from rfl)
def c33:CFunc:=Qd (show gX f33 []=_ from rfl)
def c34:CFunc:=Qd (show gX f34 []=_ from rfl)
def c35:CFunc:=Qd (show gX f35 []=_ from rfl)
def c36:CFunc:=Qd (show gX f36 []=_ from rfl)
def c38:CFunc:=Qd (show gX f38 []=_ from rfl)
def c39:CFunc:=Qd (show gX f39 []=_ from rfl)
def c40:CFunc:=Qd (show gX f40 []=_ from rfl)
def c41:CFunc:=Qd (show gX f41 []=_ from rfl)
def c42:CFunc:=Qd (show gX f42 []=_ from rfl)
def c45:CFunc:=Qd (show gX f45 []=_ from rfl)
def c46:CFunc:=Qd (show gX f46 []=_ from rfl)
def c47:CFunc:=Qd (show gX f47 []=_ from rfl)
def c48:CFunc:=Qd (show gX f48 []=_ from rfl)
def c49:CFunc:=Qd (show gX f49 []=_ from rfl)
def c50:CFunc:=Qd (show gX f50 []=_ from rfl)
def c51:CFunc:=Qd (show gX f51 []=_ from rfl)
def c52:CFunc:=Qd (show gX f52 []=_ from rfl)
def c53:CFunc:=Qd (show gX f53 []=_ from rfl)
def c54:CFunc:=Qd (show gX f54 []=_ from rfl)
def c55:CFunc:=Qd (show Qsg tyT [(227,1),(425,2)] [(42,[(190,465),(192,467),(193,469)])] [] f55 []=_ from rfl)
def c56:CFunc:=Qd (show gX f56 []=_ from rfl)
def c57:CFunc:=Qd (show gX f57 []=_ from rfl)
def c58:CFunc:=Qd (show gX f58 []=_ from rfl)
def c59:CFunc:=Qd (show gX f59 []=_ from rfl)
def c60:CFunc:=Qd (show gX f60 []=_ from rfl)
def c61:CFunc:=Qd (show gX f61 []=_ from rfl)
def c62:CFunc:=Qd (show gX f62 []=_ from rfl)
def c63:CFunc:=Qd (show gX f63 []=_ from rfl)
def c64:CFunc:=Qd (show gX f64 []=_ from rfl)
def c65:CFunc:=Qd (show gX f65 []=_ from rfl)
def c66:CFunc:=Qd (show gX f66 []=_ from rfl)
def c67:CFunc:=Qd (show gX f67 []=_ from rfl)
def c68:CFunc:=Qd (show gX f68 []=_ from rfl)
def c69:CFunc:=Qd (show gX f69 []=_ from rfl)
def c70:CFunc:=Qd (show gX f70 []=_ from rfl)
def c71:CFunc:=Qd (show gX f71 []=_ from rfl)
def c72:CFunc:=Qd (show gX f72 []=_ from rfl)
def c73:CFunc:=Qd (show gX f73 []=_ from rfl)
def c74:CFunc:=Qd (show gX f74 []=_ from rfl)
def c75:CFunc:=Qd (show gX f75 []=_ from rfl)
def c76:CFunc:=Qd (show gX f76 []=_ from rfl)
def c77:CFunc:=Qd (show gX f77 []=_ from rfl)
def c78:CFunc:=Qd (show gX f78 []=_ from rfl)
def c80:CFunc:=Qd (show gX f80 []=_ from rfl)
def c81:CFunc:=Qd (show gX f81 []=_ from rfl)
def c82:CFunc:=Qd (show gX f82 []=_ from rfl)
def c83:CFunc:=Qd (show gX f83 []=_ from rfl)
def c84:CFunc:=Qd (show gX f84 []=_ from rfl)
def c85:CFunc:=Qd (show gX f85 []=_ from rfl)
def c86:CFunc:=Qd (show gX f86 []=_ from rfl)
def c87:CFunc:=Qd (show gX f87 []=_ from rfl)
def c89:CFunc:=Qd (show gX f89 []=_ from rfl)
def c90:CFunc:=Qd (show gX f90 []=_ from rfl)
def c91:CFunc:=Qd (show Qsg tyT [(227,1),(425,2)] [(4,[(17,453),(43,457),(44,459),(94,460),(373,471)]),(7,[(94,462)]),(13,[(150,463)])] [] f91 []=_ from rfl)
def c92:CFunc:=Qd (show gX f92 []=_ from rfl)
def c93:CFunc:=Qd (show gX f93 []=_ from rfl)
def c94:CFunc:=Qd (show gX f94 []=_ from rfl)
def c95:CFunc:=Qd (show gX f95 []=_ from rfl)
def c96:CFunc:=Qd (show gX f96 []=_ from rfl)
def c97:CFunc:=Qd (show gX f97 []=_ from rfl)
def c98:CFunc:=Qd (show gX f98 []=_ from rfl)
def c99:CFunc:=Qd (show gX f99 []=_ from rfl)
def Z5u:CFunc:=Qd (show gX f100 []=_ from rfl)
def Z8z:CFunc:=Qd (show gX f101 []=_ from rfl)
def Zc4:CFunc:=Qd (show gX f102 []=_ from rfl)
def Za9:CFunc:=Qd (show gX f103 []=_ from rfl)
def Qqi:CFunc:=Qd (show gX f104 []=_ from rfl)
def Za8:CFunc:=Qd (show gX f105 []=_ from rfl)
def Z5y:CFunc:=Qd (show gX f106 []=_ from rfl)
def Z2m:CFunc:=Qd (show gX f107 []=_ from rfl)
def Zbk:CFunc:=Qd (show gX f108 []=_ from rfl)
def Z73:CFunc:=Qd (show gX f109 []=_ from rfl)
def Zbj:CFunc:=Qd (show gX f110 []=_ from rfl)
def Z12:CFunc:=Qd (show gX f111 []=_ from rfl)
def Zbs:CFunc:=Qd (show gX f112 []=_ from rfl)
def Z2z:CFunc:=Qd (show gX f113 []=_ from rfl)
def Zb3:CFunc:=Qd (show gX f114 []=_ from rfl)
def Zat:CFunc:=Qd (show Qsg tyT [(227,1),(425,2)] [(29,[(94,461)]),(35,[(94,461)]),(40,[(94,462)])] [] f115 []=_ from rfl)
def Z5l:CFunc:=Qd (show gX f116 []=_ from rfl)
def Z55:CFunc:=Qd (show gX f117 []=_ from rfl)
def Z3s:CFunc:=Qd (show gX f118 []=_ from rfl)
def Zbx:CFunc:=Qd (show gX f119 []=_ from rfl)
def Z49:CFunc:=Qd (show gX f120 []=_ from rfl)
def Z42:CFunc:=Qd (show gX f121 []=_ from rfl)
def Z2l:CFunc:=Qd (show gX f122 []=_ from rfl)
def Z5m:CFunc:=Qd (show gX f123 []=_ from rfl)
def Z2s:CFunc:=Qd (show gX f124 []=_ from rfl)
def Z44:CFunc:=Qd (show gX f125 []=_ from rfl)
def Z6g:CFunc:=Qd (show gX f126 []=_ from rfl)
def Z2c:CFunc:=Qd (show gX f127 []=_ from rfl)
def Z8o:CFunc:=Qd (show gX f128 []=_ from rfl)
def Zbn:CFunc:=Qd (show gX f129 []=_ from rfl)
def Z56:CFunc:=Qd (show gX f130 []=_ from rfl)
def Z72:CFunc:=Qd (show gX f131 []=_ from rfl)
def Zbe:CFunc:=Qd (show gX f132 []=_ from rfl)
def Z3o:CFunc:=Qd (show gX f133 []=_ from rfl)
def Z3a:CFunc:=Qd (show gX f134 []=_ from rfl)
def Z0i:CFunc:=Qd (show gX f135 []=_ from rfl)
def Z2f:CFunc:=Qd (show gX f136 []=_ from rfl)
def Z7s:CFunc:=Qd (show gX f137 []=_ from rfl)
def Z1t:CFunc:=Qd (show gX f138 []=_ from rfl)
def Z8a:CFunc:=Qd (show gX f139 []=_ from rfl)
def Z6j:CFunc:=Qd (show gX f140 []=_ from rfl)
def Z8h:CFunc:=Qd (show gX f141 []=_ from rfl)
def Z92:CFunc:=Qd (show gX f142 []=_ from rfl)
def Zbf:CFunc:=Qd (show gX f143 []=_ from rfl)
def Z85:CFunc:=Qd (show gX f144 []=_ from rfl)
def Z86:CFunc:=Qd (show gX f145 [false,true]=_ from rfl)
def Z5v:CFunc:=Qd (show gX f146 []=_ from rfl)
def Za2:CFunc:=Qd (show gX f147 []=_ from rfl)
def Zbi:CFunc:=Qd (show gX f148 []=_ from rfl)
def Z6h:CFunc:=Qd (show gX f149 []=_ from rfl)
def Z0h:CFunc:=Qd (show gX f150 []=_ from rfl)
def Z6i:CFunc:=Qd (show gX f151 []=_ from rfl)
def Z2n:CFunc:=Qd (show gX f152 []=_ from rfl)
def Z93:CFunc:=Qd (show gX f153 []=_ from rfl)
def Z30:CFunc:=Qd (show gX f154 []=_ from rfl)
def Z4a:CFunc:=Qd (show gX f155 []=_ from rfl)
def Z1y:CFunc:=Qd (show gX f156 []=_ from rfl)
def Zbu:CFunc:=Qd (show gX f157 []=_ from rfl)
def Z1n:CFunc:=Qd (show gX f158 []=_ from rfl)
def Z96:CFunc:=Qd (show gX f159 []=_ from rfl)
def Z3u:CFunc:=Qd (show gX f160 []=_ from rfl)
def Z0j:CFunc:=Qd (show gX f161 []=_ from rfl)
def Z3n:CFunc:=Qd (show gX f162 []=_ from rfl)
def Z4p:CFunc:=Qd (show gX f163 []=_ from rfl)
def Z9r:CFunc:=Qd (show gX f164 []=_ from rfl)
def Z16:CFunc:=Qd (show gX f165 []=_ from rfl)
def Z0k:CFunc:=Qd (show gX f166 []=_ from rfl)
def Z3t:CFunc:=Qd (show gX f167 []=_ from rfl)
def Z8g:CFunc:=Qd (show gX f168 []=_ from rfl)
def Z9e:CFunc:=Qd (show gX f169 []=_ from rfl)
def Z28:CFunc:=Qd (show gX f170 []=_ from rfl)
def Z6m:CFunc:=Qd (show gX f171 []=_ from rfl)
def Zb9:CFunc:=Qd (show gX f172 []=_ from rfl)
def Z9s:CFunc:=Qd (show gX f173 []=_ from rfl)
def Zah:CFunc:=Qd (show gX f174 []=_ from rfl)
def Z6n:CFunc:=Qd (show gX f175 []=_ from rfl)
def Z5t:CFunc:=Qd (show gX f176 []=_ from rfl)
def Z1c:CFunc:=Qd (show gX f177 []=_ from rfl)
def Z9o:CFunc:=Qd (show gX f178 []=_ from rfl)
def Z6z:CFunc:=Qd (show gX f179 []=_ from rfl)
def Z8k:CFunc:=Qd (show gX f180 []=_ from rfl)
def Z1z:CFunc:=Qd (show gX f181 []=_ from rfl)
def Zab:CFunc:=Qd (show gX f182 []=_ from rfl)
def Z3k:CFunc:=Qd (show gX f183 []=_ from rfl)
def Zcm:CFunc:=Qd (show gX f184 []=_ from rfl)
def Z45:CFunc:=Qd (show gX f186 []=_ from rfl)
def Za5:CFunc:=Qd (show gX f187 []=_ from rfl)
def Z2o:CFunc:=Qd (show gX f188 [false,true,true,false,false,true,true]=_ from rfl)
def Z8u:CFunc:=Qd (show gX f189 [false,false,true,true,true]=_ from rfl)
def Zbm:CFunc:=Qd (show gX f190 []=_ from rfl)
def Z31:CFunc:=Qd (show gX f191 []=_ from rfl)
def Zc5:CFunc:=Qd (show gX f192 []=_ from rfl)
def Zcp:CFunc:=Qd (show gX f193 []=_ from rfl)
def Z9f:CFunc:=Qd (show gX f194 []=_ from rfl)
def Z5q:CFunc:=Qd (show gX f195 []=_ from rfl)
def Z11:CFunc:=Qd (show gX f196 []=_ from rfl)
def Z54:CFunc:=Qd (show gX f197 []=_ from rfl)
def Z5o:CFunc:=Qd (show gX f198 []=_ from rfl)
def Z8e:CFunc:=Qd (show gX f199 []=_ from rfl)
def Z1p:CFunc:=Qd (show gX f200 []=_ from rfl)
def Z61:CFunc:=Qd (show gX f201 []=_ from rfl)
def Zbb:CFunc:=Qd (show gX f202 []=_ from rfl)
def Zba:CFunc:=Qd (show gX f203 []=_ from rfl)
def Z20:CFunc:=Qd (show gX f204 []=_ from rfl)
def Z59:CFunc:=Qd (show gX f205 []=_ from rfl)
def Zb2:CFunc:=Qd (show gX f206 []=_ from rfl)
def Z24:CFunc:=Qd (show gX f207 []=_ from rfl)
def Z29:CFunc:=Qd (show gX f208 []=_ from rfl)
def Z7c:CFunc:=Qd (show gX f209 []=_ from rfl)
def Zcg:CFunc:=Qd (show gX f210 []=_ from rfl)
def Z9u:CFunc:=Qd (show gX f211 []=_ from rfl)
def Zax:CFunc:=Qd (show gX f212 []=_ from rfl)
def Z95:CFunc:=Qd (show gX f213 []=_ from rfl)
def Z4o:CFunc:=Qd (show gX f214 []=_ from rfl)
def Z94:CFunc:=Qd (show gX f215 []=_ from rfl)
def Z9k:CFunc:=Qd (show gX f216 []=_ from rfl)
def Z0l:CFunc:=Qd (show gX f217 []=_ from rfl)
def Z7l:CFunc:=Qd (show gX f218 [false,false,false,false,false,true,true,false,false,true,false,true,false,true,false,true,false,true,false,true]=_ from rfl)
def Z0o:CFunc:=Qd (show gX f219 []=_ from rfl)
def Zau:CFunc:=Qd (show gX f220 []=_ from rfl)
def Z6x:CFunc:=Qd (show gX f221 []=_ from rfl)
def Zbg:CFunc:=Qd (show gX f222 []=_ from rfl)
def Z3p:CFunc:=Qd (show gX f223 []=_ from rfl)
def Z15:CFunc:=Qd (show gX f224 []=_ from rfl)
def Zbo:CFunc:=Qd (show gX f225 []=_ from rfl)
def Zaw:CFunc:=Qd (show gX f226 []=_ from rfl)
def Zbv:CFunc:=Qd (show gX f228 []=_ from rfl)
def Z40:CFunc:=Qd (show gX f229 []=_ from rfl)
def Z5r:CFunc:=Qd (show gX f230 []=_ from rfl)
def Z74:CFunc:=Qd (show gX f231 []=_ from rfl)
def Z41:CFunc:=Qd (show gX f232 []=_ from rfl)
def Z1i:CFunc:=Qd (show gX f233 []=_ from rfl)
def Z83:CFunc:=Qd (show gX f234 []=_ from rfl)
def Z69:CFunc:=Qd (show gX f235 []=_ from rfl)
def Zcl:CFunc:=Qd (show gX f236 []=_ from rfl)
def Z47:CFunc:=Qd (show gX f237 []=_ from rfl)
def Zaq:CFunc:=Qd (show gX f238 []=_ from rfl)
def Zbz:CFunc:=Qd (show gX f239 []=_ from rfl)
def Z7m:CFunc:=Qd (show gX f240 []=_ from rfl)
def Z21:CFunc:=Qd (show gX f241 []=_ from rfl)
def Z9c:CFunc:=Qd (show gX f242 []=_ from rfl)
def Z8p:CFunc:=Qd (show gX f243 []=_ from rfl)
def Zaf:CFunc:=Qd (show gX f244 []=_ from rfl)
def Z50:CFunc:=Qd (show gX f245 []=_ from rfl)
def Z68:CFunc:=Qd (show gX f246 []=_ from rfl)
def Z0z:CFunc:=Qd (show gX f247 []=_ from rfl)
def Zc9:CFunc:=Qd (show gX f248 []=_ from rfl)
def Zag:CFunc:=Qd (show gX f249 []=_ from rfl)
def Za1:CFunc:=Qd (show gX f250 []=_ from rfl)
def Z0v:CFunc:=Qd (show gX f251 []=_ from rfl)
def Zae:CFunc:=Qd (show gX f252 []=_ from rfl)
def Z5b:CFunc:=Qd (show gX f253 []=_ from rfl)
def Z0p:CFunc:=Qd (show gX f254 []=_ from rfl)
def Z3y:CFunc:=Qd (show gX f255 []=_ from rfl)
def Z0q:CFunc:=Qd (show gX f256 []=_ from rfl)
def Z4z:CFunc:=Qd (show gX f257 [false,false,false,false,false,false,true]=_ from rfl)
def Z6a:CFunc:=Qd (show gX f258 []=_ from rfl)
def Z98:CFunc:=Qd (show gX f259 []=_ from rfl)
def Zcc:CFunc:=Qd (show gX f260 []=_ from rfl)
def Z51:CFunc:=Qd (show gX f261 []=_ from rfl)
def Z5i:CFunc:=Qd (show gX f262 []=_ from rfl)
def Z9x:CFunc:=Qd (show gX f263 []=_ from rfl)
def Z62:CFunc:=Qd (show gX f264 []=_ from rfl)
def Z64:CFunc:=Qd (show gX f265 []=_ from rfl)
def Z99:CFunc:=Qd (show gX f266 []=_ from rfl)
def Z1j:CFunc:=Qd (show gX f267 []=_ from rfl)
def Z6v:CFunc:=Qd (show gX f268 []=_ from rfl)
def Zcn:CFunc:=Qd (show gX f269 []=_ from rfl)
def Z9p:CFunc:=Qd (show gX f270 []=_ from rfl)
def Z4w:CFunc:=Qd (show gX f271 []=_ from rfl)
def Zak:CFunc:=Qd (show gX f272 []=_ from rfl)
def Za4:CFunc:=Qd (show gX f273 []=_ from rfl)
def Z48:CFunc:=Qd (show gX f274 []=_ from rfl)
def Z6o:CFunc:=Qd (show gX f275 []=_ from rfl)
def Z6q:CFunc:=Qd (show gX f276 []=_ from rfl)
def Z9a:CFunc:=Qd (show gX f277 []=_ from rfl)
def Z89:CFunc:=Qd (show gX f278 []=_ from rfl)
def Z7x:CFunc:=Qd (show gX f279 []=_ from rfl)
def Z1s:CFunc:=Qd (show gX f280 []=_ from rfl)
def Z7z:CFunc:=Qd (show gX f281 []=_ from rfl)
def Z2d:CFunc:=Qd (show gX f282 []=_ from rfl)
def Z5s:CFunc:=Qd (show gX f283 []=_ from rfl)
def Z82:CFunc:=Qd (show gX f284 []=_ from rfl)
def Z5z:CFunc:=Qd (show gX f285 []=_ from rfl)
def Z9t:CFunc:=Qd (show gX f286 []=_ from rfl)
def Z7p:CFunc:=Qd (show gX f287 []=_ from rfl)
def Z9m:CFunc:=Qd (show gX f288 []=_ from rfl)
def Za7:CFunc:=Qd (show gX f289 []=_ from rfl)
def Z71:CFunc:=Qd (show gX f290 []=_ from rfl)
def Z2t:CFunc:=Qd (show gX f291 []=_ from rfl)
def Z2p:CFunc:=Qd (show gX f292 []=_ from rfl)
def Z6u:CFunc:=Qd (show gX f293 []=_ from rfl)
def Zbw:CFunc:=Qd (show gX f294 []=_ from rfl)
def Z3z:CFunc:=Qd (show gX f295 []=_ from rfl)
def Z3w:CFunc:=Qd (show gX f296 []=_ from rfl)
def Zbd:CFunc:=Qd (show gX f297 []=_ from rfl)
def Z3h:CFunc:=Qd (show gX f298 []=_ from rfl)
def Z52:CFunc:=Qd (show gX f299 []=_ from rfl)
def Qqk:CFunc:=Qd (show gX f300 []=_ from rfl)
def Z5h:CFunc:=Qd (show gX f301 []=_ from rfl)
def Zcr:CFunc:=Qd (show gX f302 []=_ from rfl)
def Z3e:CFunc:=Qd (show gX f303 []=_ from rfl)
def Za0:CFunc:=Qd (show gX f304 []=_ from rfl)
def Zbr:CFunc:=Qd (show gX f305 []=_ from rfl)
def Z6f:CFunc:=Qd (show gX f306 []=_ from rfl)
def Zac:CFunc:=Qd (show gX f307 []=_ from rfl)
def Zc0:CFunc:=Qd (show gX f308 []=_ from rfl)
def Z8q:CFunc:=Qd (show gX f309 []=_ from rfl)
def Z3d:CFunc:=Qd (show gX f310 []=_ from rfl)
def Z0w:CFunc:=Qd (show gX f311 []=_ from rfl)
def Z6b:CFunc:=Qd (show gX f312 []=_ from rfl)
def Z6w:CFunc:=Qd (show gX f313 []=_ from rfl)
def Z8w:CFunc:=Qd (show gX f314 []=_ from rfl)
def Z4c:CFunc:=Qd (show gX f315 []=_ from rfl)
def Zck:CFunc:=Qd (show gX f316 []=_ from rfl)
def Z4n:CFunc:=Qd (show gX f317 []=_ from rfl)
def Z8y:CFunc:=Qd (show gX f318 []=_ from rfl)
def Z7n:CFunc:=Qd (show gX f319 []=_ from rfl)
def Zca:CFunc:=Qd (show gX f320 []=_ from rfl)
def Z1m:CFunc:=Qd (show gX f321 []=_ from rfl)
def Z3l:CFunc:=Qd (show gX f322 []=_ from rfl)
def Z4j:CFunc:=Qd (show gX f323 []=_ from rfl)
def Z4d:CFunc:=Qd (show gX f324 []=_ from rfl)
def Zc2:CFunc:=Qd (show gX f325 []=_ from rfl)
def Z1q:CFunc:=Qd (show gX f326 []=_ from rfl)
def Z0g:CFunc:=Qd (show gX f327 []=_ from rfl)
def Z65:CFunc:=Qd (show gX f328 []=_ from rfl)
def Z0r:CFunc:=Qd (show gX f329 []=_ from rfl)
def Z6p:CFunc:=Qd (show gX f330 []=_ from rfl)
def Z43:CFunc:=Qd (show gX f331 []=_ from rfl)
def Z8s:CFunc:=Qd (show gX f332 []=_ from rfl)
def Z7t:CFunc:=Qd (show gX f333 []=_ from rfl)
def Zci:CFunc:=Qd (show gX f334 []=_ from rfl)
def Z3g:CFunc:=Qd (show gX f335 []=_ from rfl)
def Z9d:CFunc:=Qd (show gX f336 []=_ from rfl)
def Z1g:CFunc:=Qd (show gX f337 []=_ from rfl)
def Zcb:CFunc:=Qd (show gX f338 []=_ from rfl)
def Z4l:CFunc:=Qd (show gX f339 []=_ from rfl)
def Z9z:CFunc:=Qd (show gX f340 []=_ from rfl)
def Z58:CFunc:=Qd (show gX f341 []=_ from rfl)
def Zc3:CFunc:=Qd (show gX f342 []=_ from rfl)
def Z10:CFunc:=Qd (show gX f343 []=_ from rfl)
def Z3m:CFunc:=Qd (show gX f344 []=_ from rfl)
def Zbt:CFunc:=Qd (show gX f345 []=_ from rfl)
def Z6t:CFunc:=Qd (show gX f346 []=_ from rfl)
def Z6r:CFunc:=Qd (show gX f347 []=_ from rfl)
def Z0m:CFunc:=Qd (show gX f348 []=_ from rfl)
def Z67:CFunc:=Qd (show gX f349 []=_ from rfl)
def Zb1:CFunc:=Qd (show gX f350 []=_ from rfl)
def Z5d:CFunc:=Qd (show gX f351 []=_ from rfl)
def Z79:CFunc:=Qd (show gX f352 []=_ from rfl)
def Z5e:CFunc:=Qd (show gX f353 []=_ from rfl)
def Z4s:CFunc:=Qd (show gX f354 []=_ from rfl)
def Z9l:CFunc:=Qd (show gX f355 []=_ from rfl)
def Z7v:CFunc:=Qd (show gX f356 []=_ from rfl)
def Z53:CFunc:=Qd (show gX f357 []=_ from rfl)
def Z4e:CFunc:=Qd (show gX f358 []=_ from rfl)
def Z1a:CFunc:=Qd (show gX f359 []=_ from rfl)
def Zcd:CFunc:=Qd (show gX f360 []=_ from rfl)
def Zad:CFunc:=Qd (show gX f361 []=_ from rfl)
def Za6:CFunc:=Qd (show gX f362 []=_ from rfl)
def Z9v:CFunc:=Qd (show gX f363 []=_ from rfl)
def Z8t:CFunc:=Qd (show gX f364 []=_ from rfl)
def Z5j:CFunc:=Qd (show gX f365 []=_ from rfl)
def Z4v:CFunc:=Qd (show gX f366 []=_ from rfl)
def Z5a:CFunc:=Qd (show gX f367 []=_ from rfl)
def Zal:CFunc:=Qd (show gX f368 []=_ from rfl)
def Z3v:CFunc:=Qd (show gX f369 []=_ from rfl)
def Z9q:CFunc:=Qd (show gX f370 []=_ from rfl)
def Zb8:CFunc:=Qd (show gX f371 []=_ from rfl)
def Z1l:CFunc:=Qd (show gX f372 []=_ from rfl)
def Z7d:CFunc:=Qd (show gX f373 []=_ from rfl)
def Z34:CFunc:=Qd (show gX f374 []=_ from rfl)
def Zao:CFunc:=Qd (show gX f375 []=_ from rfl)
def Z25:CFunc:=Qd (show gX f376 []=_ from rfl)
def Zc7:CFunc:=Qd (show gX f377 []=_ from rfl)
def Z5p:CFunc:=Qd (show gX f378 []=_ from rfl)
def Z7j:CFunc:=Qd (show gX f379 []=_ from rfl)
def Z0t:CFunc:=Qd (show gX f380 []=_ from rfl)
def Z7k:CFunc:=Qd (show gX f381 []=_ from rfl)
def Z76:CFunc:=Qd (show gX f382 []=_ from rfl)
def Z2u:CFunc:=Qd (show gX f383 []=_ from rfl)
def Zap:CFunc:=Qd (show gX f384 []=_ from rfl)
def Zcj:CFunc:=Qd (show gX f385 []=_ from rfl)
def Z9n:CFunc:=Qd (show gX f386 []=_ from rfl)
def Z87:CFunc:=Qd (show gX f387 []=_ from rfl)
def Z23:CFunc:=Qd (show gX f388 []=_ from rfl)
def Z7y:CFunc:=Qd (show gX f389 []=_ from rfl)
def Zbl:CFunc:=Qd (show gX f390 []=_ from rfl)
def Zai:CFunc:=Qd (show gX f391 []=_ from rfl)
def Z4x:CFunc:=Qd (show gX f392 []=_ from rfl)
def Z3i:CFunc:=Qd (show gX f393 []=_ from rfl)
def Z2b:CFunc:=Qd (show gX f394 []=_ from rfl)
def Z8d:CFunc:=Qd (show gX f395 []=_ from rfl)
def Zbh:CFunc:=Qd (show gX f396 []=_ from rfl)
def Z37:CFunc:=Qd (show gX f397 []=_ from rfl)
def Z70:CFunc:=Qd (show gX f398 []=_ from rfl)
def Zcq:CFunc:=Qd (show gX f399 []=_ from rfl)
def Z1k:CFunc:=Qd (show gX f400 [false,false,true]=_ from rfl)
def Z1d:CFunc:=Qd (show gX f401 []=_ from rfl)
def Z5x:CFunc:=Qd (show gX f402 []=_ from rfl)
def Z5n:CFunc:=Qd (show gX f403 []=_ from rfl)
def Za3:CFunc:=Qd (show gX f404 []=_ from rfl)
def Z2y:CFunc:=Qd (show gX f405 []=_ from rfl)
def Z5k:CFunc:=Qd (show gX f406 []=_ from rfl)
def Z4i:CFunc:=Qd (show gX f407 []=_ from rfl)
def Z3q:CFunc:=Qd (show gX f408 []=_ from rfl)
def Z0y:CFunc:=Qd (show gX f409 []=_ from rfl)
def Z6y:CFunc:=Qd (show gX f410 []=_ from rfl)
def Z7w:CFunc:=Qd (show gX f411 []=_ from rfl)
def Zas:CFunc:=Qd (show gX f412 []=_ from rfl)
def Z7u:CFunc:=Qd (show gX f413 []=_ from rfl)
def Z4r:CFunc:=Qd (show gX f414 []=_ from rfl)
def Z7a:CFunc:=Qd (show gX f415 []=_ from rfl)
def Z1f:CFunc:=Qd (show gX f416 []=_ from rfl)
def Z3f:CFunc:=Qd (show gX f417 []=_ from rfl)
def Zcf:CFunc:=Qd (show gX f418 []=_ from rfl)
def Z7f:CFunc:=Qd (show gX f419 []=_ from rfl)
def Z2g:CFunc:=Qd (show gX f420 []=_ from rfl)
def Z0u:CFunc:=Qd (show gX f421 []=_ from rfl)
def Z5f:CFunc:=Qd (show gX f422 []=_ from rfl)
def Z91:CFunc:=Qd (show gX f423 []=_ from rfl)
def Z8b:CFunc:=Qd (show gX f424 []=_ from rfl)
def Z8n:CFunc:=Qd (show gX f426 []=_ from rfl)
def Z8r:CFunc:=Qd (show gX f429 []=_ from rfl)
def Z8l:CFunc:=Qd (show gX f430 []=_ from rfl)
def Z6l:CFunc:=Qd (show gX f431 []=_ from rfl)
def Z6e:CFunc:=Qd (show gX f432 []=_ from rfl)
def Z2r:CFunc:=Qd (show gX f433 []=_ from rfl)
def Z4k:CFunc:=Qd (show gX f434 []=_ from rfl)
def Z7g:CFunc:=Qd (show gX f435 []=_ from rfl)
def Z46:CFunc:=Qd (show gX f436 []=_ from rfl)
def Z80:CFunc:=Qd (show gX f437 []=_ from rfl)
def Z36:CFunc:=Qd (show gX f438 []=_ from rfl)
def Z2a:CFunc:=Qd (show gX f439 []=_ from rfl)
def Z2x:CFunc:=Qd (show gX f457 []=_ from rfl)
def Zan:CFunc:=Qd (show gX f459 []=_ from rfl)
def Zay:CFunc:=Qd (show gX f460 []=_ from rfl)
def Z3x:CFunc:=Qd (show gX f461 []=_ from rfl)
def Z78:CFunc:=Qd (show gX f462 []=_ from rfl)
def Z2h:CFunc:=Qd (show gX f463 []=_ from rfl)
def Z1x:CFunc:=Qd (show gX f464 []=_ from rfl)
def Z7i:CFunc:=Qd (show gX f465 []=_ from rfl)
def Z6d:CFunc:=Qd (show gX f467 []=_ from rfl)
def Zb7:CFunc:=Qd (show gX f469 []=_ from rfl)
def Zbc:CFunc:=Qd (show gX f471 []=_ from rfl)
def Qyl:List (Option CFunc) := [none,none,none,none,some c4,none,some c6,some c7,none,some c9,some c10,some c11,some c12,none,none,some c15,some c16,some c17,some c18,none,none,none,none,some c23,some c24,some c25,some c26,some c27,some c28,some c29,some c30,some c31,some c32,some c33,some c34,some c35,some c36,none,some c38,some c39,some c40,some c41,some c42,none,none,some c45,some c46,some c47,some c48,some c49,some c50,some c51,some c52,some c53,some c54,some c55,some c56,some c57,some c58,some c59,some c60,some c61,some c62,some c63,some c64,some c65,some c66,some c67,some c68,some c69,some c70,some c71,some c72,some c73,some c74,some c75,some c76,some c77,some c78,none,some c80,some c81,some c82,some c83,some c84,some c85,some c86,some c87,none,some c89,some c90,some c91,some c92,some c93,some c94,some c95,some c96,some c97,some c98,some c99,some Z5u,some Z8z,some Zc4,some Za9,some Qqi,some Za8,some Z5y,some Z2m,some Zbk,some Z73,some Zbj,some Z12,some Zbs,some Z2z,some Zb3,some Zat,some Z5l,some Z55,some Z3s,some Zbx,some Z49,some Z42,some Z2l,some Z5m,some Z2s,some Z44,some Z6g,some Z2c,some Z8o,some Zbn,some Z56,some Z72,some Zbe,some Z3o,some Z3a,some Z0i,some Z2f,some Z7s,some Z1t,some Z8a,some Z6j,some Z8h,some Z92,some Zbf,some Z85,some Z86,some Z5v,some Za2,some Zbi,some Z6h,some Z0h,some Z6i,some Z2n,some Z93,some Z30,some Z4a,some Z1y,some Zbu,some Z1n,some Z96,some Z3u,some Z0j,some Z3n,some Z4p,some Z9r,some Z16,some Z0k,some Z3t,some Z8g,some Z9e,some Z28,some Z6m,some Zb9,some Z9s,some Zah,some Z6n,some Z5t,some Z1c,some Z9o,some Z6z,some Z8k,some Z1z,some Zab,some Z3k,some Zcm,none,some Z45,some Za5,some Z2o,some Z8u,some Zbm,some Z31,some Zc5,some Zcp,some Z9f,some Z5q,some Z11,some Z54,some Z5o,some Z8e,some Z1p,some Z61,some Zbb,some Zba,some Z20,some Z59,some Zb2,some Z24,some Z29,some Z7c,some Zcg,some Z9u,some Zax,some Z95,some Z4o,some Z94,some Z9k,some Z0l,some Z7l,some Z0o,some Zau,some Z6x,some Zbg,some Z3p,some Z15,some Zbo,some Zaw,none,some Zbv,some Z40,some Z5r,some Z74,some Z41,some Z1i,some Z83,some Z69,some Zcl,some Z47,some Zaq,some Zbz,some Z7m,some Z21,some Z9c,some Z8p,some Zaf,some Z50,some Z68,some Z0z,some Zc9,some Zag,some Za1,some Z0v,some Zae,some Z5b,some Z0p,some Z3y,some Z0q,some Z4z,some Z6a,some Z98,some Zcc,some Z51,some Z5i,some Z9x,some Z62,some Z64,some Z99,some Z1j,some Z6v,some Zcn,some Z9p,some Z4w,some Zak,some Za4,some Z48,some Z6o,some Z6q,some Z9a,some Z89,some Z7x,some Z1s,some Z7z,some Z2d,some Z5s,some Z82,some Z5z,some Z9t,some Z7p,some Z9m,some Za7,some Z71,some Z2t,some Z2p,some Z6u,some Zbw,some Z3z,some Z3w,some Zbd,some Z3h,some Z52,some Qqk,some Z5h,some Zcr,some Z3e,some Za0,some Zbr,some Z6f,some Zac,some Zc0,some Z8q,some Z3d,some Z0w,some Z6b,some Z6w,some Z8w,some Z4c,some Zck,some Z4n,some Z8y,some Z7n,some Zca,some Z1m,some Z3l,some Z4j,some Z4d,some Zc2,some Z1q,some Z0g,some Z65,some Z0r,some Z6p,some Z43,some Z8s,some Z7t,some Zci,some Z3g,some Z9d,some Z1g,some Zcb,some Z4l,some Z9z,some Z58,some Zc3,some Z10,some Z3m,some Zbt,some Z6t,some Z6r,some Z0m,some Z67,some Zb1,some Z5d,some Z79,some Z5e,some Z4s,some Z9l,some Z7v,some Z53,some Z4e,some Z1a,some Zcd,some Zad,some Za6,some Z9v,some Z8t,some Z5j,some Z4v,some Z5a,some Zal,some Z3v,some Z9q,some Zb8,some Z1l,some Z7d,some Z34,some Zao,some Z25,some Zc7,some Z5p,some Z7j,some Z0t,some Z7k,some Z76,some Z2u,some Zap,some Zcj,some Z9n,some Z87,some Z23,some Z7y,some Zbl,some Zai,some Z4x,some Z3i,some Z2b,some Z8d,some Zbh,some Z37,some Z70,some Zcq,some Z1k,some Z1d,some Z5x,some Z5n,some Za3,some Z2y,some Z5k,some Z4i,some Z3q,some Z0y,some Z6y,some Z7w,some Zas,some Z7u,some Z4r,some Z7a,some Z1f,some Z3f,some Zcf,some Z7f,some Z2g,some Z0u,some Z5f,some Z91,some Z8b,none,some Z8n,none,none,some Z8r,some Z8l,some Z6l,some Z6e,some Z2r,some Z4k,some Z7g,some Z46,some Z80,some Z36,some Z2a,none,none,none,none,none,none,none,none,none,none,none,none,none,none,none,none,none,some Z2x,none,some Zan,some Zay,some Z3x,some Z78,some Z2h,some Z1x,some Z7i,none,some Z6d,none,some Zb7,none,some Zbc]
end
end Go.Av
