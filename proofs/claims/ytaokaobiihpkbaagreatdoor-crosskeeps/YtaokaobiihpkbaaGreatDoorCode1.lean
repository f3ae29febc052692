/- Part of the proof of CrossKeeps: for every input the law returns true; no condition. -/
import Derived.Test.YtaokaobiihpkbaaGreatDoorAvGen
import Derived.Test.YtaokaobiihpkbaaGreatDoorProg
set_option linter.all false
namespace Go.Av
open Go.Proofs.Tryz
noncomputable section
open Go.Proofs
set_option maxRecDepth 100000
abbrev w6:PV := .int .i64 0
abbrev wb:PV := .bool false
abbrev w1:PV := .int .u8 0
abbrev w8:PV := .int .u64 0
abbrev ws:PV := .str []
abbrev wn:PV := .nilSlice
def tyT:List TI := [⟨1,.func,1,8,[.nilFunc]⟩,
⟨2,.int .i64,1,8,[w6]⟩,
⟨3,.int .i64,1,8,[w6]⟩,
⟨4,.bool,1,1,[wb]⟩,
⟨5,.int .u8,1,1,[w1]⟩,
⟨9,.str,1,16,[ws]⟩,
⟨12,.int .u64,1,8,[w8]⟩,
⟨21,.int .i32,1,4,[.int .i32 (0)]⟩,
⟨22,.slice 62,1,24,[wn]⟩,
⟨23,.slice 99,1,24,[wn]⟩,
⟨24,.slice 104,1,24,[wn]⟩,
⟨26,.struct [(0,9),(1,9),(2,3),(3,4),(4,23)],5,72,[ws,ws,w6,wb,wn]⟩,
⟨27,.slice 3,1,24,[wn]⟩,
⟨28,.slice 101,1,24,[wn]⟩,
⟨30,.struct [(0,3),(1,4),(2,4),(3,3),(4,3),(5,9),(6,9),(7,4),(8,3),(9,9),(10,4),(11,9),(12,4),(13,9),(14,4),(15,26),(20,4),(21,3),(22,27),(23,28),(24,23)],25,312,[w6,wb,wb,w6,w6,ws,ws,wb,w6,ws,wb,ws,wb,ws,wb,ws,ws,w6,wb,wn,wb,w6,wn,wn,wn]⟩,
⟨32,.struct [(0,4),(1,3),(2,4),(3,4),(4,4),(5,3)],6,32,[wb,w6,wb,wb,wb,w6]⟩,
⟨34,.struct [(0,3),(1,32),(7,3),(8,3),(9,3),(10,4),(11,3),(12,3),(13,3),(14,9),(15,9)],16,128,[w6,wb,w6,wb,wb,wb,w6,w6,w6,w6,wb,w6,w6,w6,ws,ws]⟩,
⟨35,.slice 108,1,24,[wn]⟩,
⟨37,.struct [(0,3),(1,3),(2,9),(3,35)],4,56,[w6,w6,ws,wn]⟩,
⟨39,.struct [(0,3),(1,3),(2,9),(3,9),(4,3),(5,4),(6,4),(7,3),(8,23),(9,3),(10,24),(11,3),(12,30),(37,34),(53,37)],57,632,[w6,w6,ws,ws,w6,wb,wb,w6,wn,w6,wn,w6,w6,wb,wb,w6,w6,ws,ws,wb,w6,ws,wb,ws,wb,ws,wb,ws,ws,w6,wb,wn,wb,w6,wn,wn,wn,w6,wb,w6,wb,wb,wb,w6,w6,w6,w6,wb,w6,w6,w6,ws,ws,w6,w6,ws,wn]⟩,
⟨40,.func,1,8,[.nilFunc]⟩,
⟨43,.ptr,1,8,[.nilPtr]⟩,
⟨44,.ptr,1,8,[.nilPtr]⟩,
⟨47,.int .i64,1,8,[w6]⟩,
⟨62,.struct [(0,9),(1,9),(2,3)],3,40,[ws,ws,w6]⟩,
⟨67,.struct [(0,24),(1,34)],17,152,[wn,w6,wb,w6,wb,wb,wb,w6,w6,w6,w6,wb,w6,w6,w6,ws,ws]⟩,
⟨75,.struct [(0,43),(1,9),(2,39)],59,656,[.nilPtr,ws,w6,w6,ws,ws,w6,wb,wb,w6,wn,w6,wn,w6,w6,wb,wb,w6,w6,ws,ws,wb,w6,ws,wb,ws,wb,ws,wb,ws,ws,w6,wb,wn,wb,w6,wn,wn,wn,w6,wb,w6,wb,wb,wb,w6,w6,w6,w6,wb,w6,w6,w6,ws,ws,w6,w6,ws,wn]⟩,
⟨76,.func,1,8,[.nilFunc]⟩,
⟨77,.map 3 76,1,8,[.nilMap]⟩,
⟨85,.slice 9,1,24,[wn]⟩,
⟨89,.ptr,1,8,[.nilPtr]⟩,
⟨92,.map 9 3,1,8,[.nilMap]⟩,
⟨93,.map 3 118,1,8,[.nilMap]⟩,
⟨94,.slice 3,1,24,[wn]⟩,
⟨96,.struct [(0,92),(1,93),(2,94),(3,3)],4,48,[.nilMap,.nilMap,wn,w6]⟩,
⟨97,.int .u32,1,4,[.int .u32 (0)]⟩,
⟨99,.struct [(0,3),(1,97),(2,9),(3,9)],4,48,[w6,.int .u32 (0),ws,ws]⟩,
⟨101,.struct [(0,9),(1,3),(2,4),(3,4),(4,3)],5,40,[ws,w6,wb,wb,w6]⟩,
⟨104,.struct [(0,3),(1,9)],2,24,[w6,ws]⟩,
⟨106,.int .u64,1,8,[w8]⟩,
⟨108,.struct [(0,3),(1,106),(2,9),(3,35)],4,56,[w6,w8,ws,wn]⟩,
⟨109,.map 9 89,1,8,[.nilMap]⟩,
⟨111,.struct [(0,109)],1,8,[.nilMap]⟩,
⟨112,.slice 152,1,24,[wn]⟩,
⟨114,.struct [(0,112)],1,24,[wn]⟩,
⟨118,.struct [(0,3),(1,9),(2,4)],3,32,[w6,ws,wb]⟩,
⟨119,.slice 118,1,24,[wn]⟩,
⟨124,.func,1,8,[.nilFunc]⟩,
⟨130,.struct [(0,40),(1,47)],2,16,[.nilFunc,w6]⟩,
⟨132,.slice 130,1,24,[wn]⟩,
⟨150,.ptr,1,8,[.nilPtr]⟩,
⟨152,.struct [(0,9),(1,119)],2,40,[ws,wn]⟩,
⟨155,.struct [(0,3),(1,3)],2,16,[w6,w6]⟩,
⟨162,.struct [(0,9)],1,16,[ws]⟩,
⟨164,.map 3 162,1,8,[.nilMap]⟩,
⟨172,.func,1,8,[.nilFunc]⟩,
⟨174,.struct [(0,3),(1,27),(2,97),(3,97)],4,40,[w6,wn,.int .u32 (0),.int .u32 (0)]⟩,
⟨178,.slice 5,1,24,[wn]⟩,
⟨182,.iface,1,16,[.nilIface]⟩,
⟨188,.struct [(0,43),(1,9)],2,24,[.nilPtr,ws]⟩,
⟨190,.struct [],0,0,[]⟩,
⟨192,.struct [(0,188)],2,24,[.nilPtr,ws]⟩,
⟨193,.struct [(0,188)],2,24,[.nilPtr,ws]⟩,
⟨196,.struct [(0,3),(1,3),(2,3),(3,3),(4,3),(5,4),(6,4),(7,4),(8,4),(9,4),(10,4),(11,4),(12,9),(13,9),(14,9),(15,9),(16,9)],17,128,[w6,w6,w6,w6,w6,wb,wb,wb,wb,wb,wb,wb,ws,ws,ws,ws,ws]⟩,
⟨199,.map 3 204,1,8,[.nilMap]⟩,
⟨202,.array 64 3,64,512,List.replicate 64 w6⟩,
⟨204,.struct [(0,3),(1,3),(2,97),(3,97)],4,24,[w6,w6,.int .u32 (0),.int .u32 (0)]⟩,
⟨210,.int .u64,1,8,[w8]⟩,
⟨211,.func,1,8,[.nilFunc]⟩,
⟨221,.array 256 4,256,256,List.replicate 256 wb⟩,
⟨233,.func,1,8,[.nilFunc]⟩,
⟨235,.func,1,8,[.nilFunc]⟩,
⟨247,.func,1,8,[.nilFunc]⟩,
⟨257,.func,1,8,[.nilFunc]⟩,
⟨258,.func,1,8,[.nilFunc]⟩,
⟨260,.struct [(0,257),(1,258)],2,16,[.nilFunc,.nilFunc]⟩,
⟨262,.map 3 260,1,8,[.nilMap]⟩,
⟨265,.struct [(0,3),(1,30)],26,320,[w6,w6,wb,wb,w6,w6,ws,ws,wb,w6,ws,wb,ws,wb,ws,wb,ws,ws,w6,wb,wn,wb,w6,wn,wn,wn]⟩,
⟨267,.slice 269,1,24,[wn]⟩,
⟨269,.struct [(0,108),(4,267),(5,3),(6,3)],7,96,[w6,w8,ws,wn,wn,w6,w6]⟩,
⟨271,.ptr,1,8,[.nilPtr]⟩,
⟨273,.struct [(0,271),(1,3),(2,34),(18,178),(19,4)],20,176,[.nilPtr,w6,w6,wb,w6,wb,wb,wb,w6,w6,w6,w6,wb,w6,w6,w6,ws,ws,wn,wb]⟩,
⟨279,.struct [(0,3),(1,3),(2,3)],3,24,[w6,w6,w6]⟩,
⟨281,.struct [(0,3),(1,279),(4,9)],5,48,[w6,w6,w6,w6,ws]⟩,
⟨285,.func,1,8,[.nilFunc]⟩,
⟨286,.map 3 285,1,8,[.nilMap]⟩,
⟨290,.struct [(0,3),(1,3),(2,3),(3,4),(4,4)],5,32,[w6,w6,w6,wb,wb]⟩,
⟨293,.ptr,1,8,[.nilPtr]⟩,
⟨294,.slice 1,1,24,[wn]⟩,
⟨299,.slice 290,1,24,[wn]⟩,
⟨302,.func,1,8,[.nilFunc]⟩,
⟨310,.struct [(0,271),(1,3)],2,16,[.nilPtr,w6]⟩,
⟨313,.func,1,8,[.nilFunc]⟩,
⟨316,.ptr,1,8,[.nilPtr]⟩,
⟨333,.array 256 5,256,256,List.replicate 256 w1⟩,
⟨335,.struct [(0,5),(1,5)],2,2,[w1,w1]⟩,
⟨336,.array 16 335,32,32,List.replicate 32 w1⟩,
⟨338,.func,1,8,[.nilFunc]⟩,
⟨342,.ptr,1,8,[.nilPtr]⟩,
⟨344,.ptr,1,8,[.nilPtr]⟩,
⟨350,.struct [(0,4),(1,3)],2,16,[wb,w6]⟩,
⟨351,.slice 350,1,24,[wn]⟩,
⟨353,.struct [(0,9),(1,3),(2,47)],3,32,[ws,w6,w6]⟩,
⟨361,.ptr,1,8,[.nilPtr]⟩,
⟨362,.struct [],0,0,[]⟩,
⟨363,.map 3 124,1,8,[.nilMap]⟩,
⟨367,.slice 313,1,24,[wn]⟩,
⟨373,.ptr,1,8,[.nilPtr]⟩,
⟨375,.struct [(0,373),(1,178)],2,32,[.nilPtr,wn]⟩,
⟨382,.array 4 106,4,32,[w8,w8,w8,w8]⟩,
⟨386,.ptr,1,8,[.nilPtr]⟩,
⟨391,.struct [(0,3),(1,3),(2,4),(3,4)],4,24,[w6,w6,wb,wb]⟩,
⟨392,.map 3 396,1,8,[.nilMap]⟩,
⟨395,.struct [(0,271),(1,99)],5,56,[.nilPtr,w6,.int .u32 (0),ws,ws]⟩,
⟨396,.func,1,8,[.nilFunc]⟩,
⟨397,.ptr,1,8,[.nilPtr]⟩,
⟨400,.int .i64,1,8,[w6]⟩,
⟨409,.ptr,1,8,[.nilPtr]⟩,
⟨414,.int .u64,1,8,[w8]⟩,
⟨421,.other,1,8,[.nilPtr]⟩]
abbrev gX:=Qte tyT [(227,1),(425,2)] [] []
def c5:=Qc (rfl:gX f5 []=_)
def c6:=Qc (rfl:gX f6 []=_)
def c7:=Qc (rfl:gX f7 []=_)
def c8:=Qc (rfl:gX f8 []=_)
def c9:=Qc (rfl:gX f9 []=_)
def c10:=Qc (rfl:gX f10 []=_)
def c12:=Qc (rfl:gX f12 []=_)
def c15:CFunc:=Qc (show gX f15 [false,true,true,false,false,false,false,false,true,false,true,false,true,false,true,true,true,false,true]=_ from rfl)
def c16:=Qc (rfl:gX f16 []=_)
def c17:=Qc (rfl:gX f17 []=_)
def c18:=Qc (rfl:gX f18 []=_)
def c19:=Qc (rfl:gX f19 []=_)
def c20:=Qc (rfl:gX f20 []=_)
def c21:=Qc (rfl:gX f21 []=_)
def c22:=Qc (rfl:gX f22 []=_)
def c23:=Qc (rfl:gX f23 []=_)
def c24:=Qc (rfl:gX f24 []=_)
def c25:=Qc (rfl:gX f25 []=_)
def c26:=Qc (rfl:gX f26 []=_)
def c27:=Qc (rfl:gX f27 []=_)
def c28:=Qc (rfl:gX f28 []=_)
def c29:=Qc (rfl:gX f29 []=_)
def c30:=Qc (rfl:gX f30 []=_)
def c31:CFunc:=Qc (show gX f31 [false,false,true]=_ from rfl)
def c32:=Qc (rfl:gX f32 []=_)
def c33:=Qc (rfl:gX f33 []=_)
def c34:=Qc (rfl:gX f34 []=_)
def c35:=Qc (rfl:gX f35 []=_)
def c36:=Qc (rfl:gX f36 []=_)
def c38:=Qc (rfl:gX f38 []=_)
def c39:=Qc (rfl:gX f39 []=_)
def c40:=Qc (rfl:gX f40 []=_)
def c41:=Qc (rfl:gX f41 []=_)
def c42:=Qc (rfl:gX f42 []=_)
def c43:=Qc (rfl:gX f43 []=_)
def c44:=Qc (rfl:gX f44 []=_)
def c45:=Qc (rfl:gX f45 []=_)
def c46:=Qc (rfl:gX f46 []=_)
def c47:=Qc (rfl:gX f47 []=_)
def c48:=Qc (rfl:gX f48 []=_)
def c49:=Qc (rfl:gX f49 []=_)
def c50:=Qc (rfl:gX f50 []=_)
def c51:=Qc (rfl:gX f51 []=_)
def c52:=Qc (rfl:gX f52 []=_)
def c53:=Qc (rfl:gX f53 []=_)
def c54:=Qc (rfl:gX f54 []=_)
def c55:CFunc:=Qc (show Qte tyT [(227,1),(425,2)] [(42,[(190,465),(192,467),(193,469)])] [] f55 []=_ from rfl)
def c56:=Qc (rfl:gX f56 []=_)
def c57:=Qc (rfl:gX f57 []=_)
def c58:=Qc (rfl:gX f58 []=_)
def c59:=Qc (rfl:gX f59 []=_)
def c60:=Qc (rfl:gX f60 []=_)
def c61:=Qc (rfl:gX f61 []=_)
def c62:=Qc (rfl:gX f62 []=_)
def c63:=Qc (rfl:gX f63 []=_)
def c64:=Qc (rfl:gX f64 []=_)
def c65:=Qc (rfl:gX f65 []=_)
def c66:=Qc (rfl:gX f66 []=_)
def c67:=Qc (rfl:gX f67 []=_)
def c68:=Qc (rfl:gX f68 []=_)
def c69:=Qc (rfl:gX f69 []=_)
def c70:=Qc (rfl:gX f70 []=_)
def c71:=Qc (rfl:gX f71 []=_)
def c72:=Qc (rfl:gX f72 []=_)
def c73:=Qc (rfl:gX f73 []=_)
def c74:=Qc (rfl:gX f74 []=_)
def c75:=Qc (rfl:gX f75 []=_)
def c76:=Qc (rfl:gX f76 []=_)
def c77:=Qc (rfl:gX f77 []=_)
def c78:=Qc (rfl:gX f78 []=_)
def c80:=Qc (rfl:gX f80 []=_)
def c81:=Qc (rfl:gX f81 []=_)
def c82:=Qc (rfl:gX f82 []=_)
def c83:=Qc (rfl:gX f83 []=_)
def c84:CFunc:=Qc (show gX f84 [false,false,false,false,false,false,true,true,false,true,true,false,true,true,true,false,true,true,false,false,true]=_ from rfl)
def c85:=Qc (rfl:gX f85 []=_)
def c86:=Qc (rfl:gX f86 []=_)
def c87:=Qc (rfl:gX f87 []=_)
def c88:=Qc (rfl:gX f88 []=_)
def c89:=Qc (rfl:gX f89 []=_)
def c90:=Qc (rfl:gX f90 []=_)
def c91:CFunc:=Qc (show Qte tyT [(227,1),(425,2)] [(4,[(17,453),(43,457),(44,459),(94,460),(373,471)]),(7,[(94,462)]),(13,[(150,463)])] [] f91 []=_ from rfl)
def c92:=Qc (rfl:gX f92 []=_)
def c93:=Qc (rfl:gX f93 []=_)
def c94:=Qc (rfl:gX f94 []=_)
def c95:=Qc (rfl:gX f95 []=_)
def c96:=Qc (rfl:gX f96 []=_)
def c97:=Qc (rfl:gX f97 []=_)
def c98:=Qc (rfl:gX f98 []=_)
def c99:=Qc (rfl:gX f99 []=_)
def Zdb:=Qc (rfl:gX f100 []=_)
def Zcq:=Qc (rfl:gX f101 []=_)
def Z7q:=Qc (rfl:gX f102 []=_)
def Zbw:=Qc (rfl:gX f103 []=_)
def Z7b:=Qc (rfl:gX f104 []=_)
def Z36:=Qc (rfl:gX f105 []=_)
def Zfm:=Qc (rfl:gX f106 []=_)
def Z7j:=Qc (rfl:gX f107 []=_)
def Z46:=Qc (rfl:gX f108 []=_)
def Zci:=Qc (rfl:gX f109 []=_)
def Zdk:=Qc (rfl:gX f110 []=_)
def Zce:=Qc (rfl:gX f111 []=_)
def Zbk:=Qc (rfl:gX f112 []=_)
def Zd1:=Qc (rfl:gX f113 []=_)
def Z5c:=Qc (rfl:gX f114 []=_)
def Zem:CFunc:=Qc (show Qte tyT [(227,1),(425,2)] [(29,[(94,461)]),(35,[(94,461)]),(40,[(94,462)])] [] f115 []=_ from rfl)
def Zeb:=Qc (rfl:gX f116 []=_)
def Zec:=Qc (rfl:gX f117 []=_)
def Zd8:=Qc (rfl:gX f118 []=_)
def Za2:=Qc (rfl:gX f119 []=_)
def Zf2:=Qc (rfl:gX f120 []=_)
def Zfb:=Qc (rfl:gX f121 []=_)
def Z4e:=Qc (rfl:gX f122 []=_)
def Z61:=Qc (rfl:gX f123 []=_)
def Z4d:=Qc (rfl:gX f124 []=_)
def Z86:=Qc (rfl:gX f125 []=_)
def Zb4:=Qc (rfl:gX f126 []=_)
def Zaq:=Qc (rfl:gX f127 []=_)
def Z8p:=Qc (rfl:gX f128 []=_)
def Z4h:=Qc (rfl:gX f129 []=_)
def Z8c:=Qc (rfl:gX f130 []=_)
def Z41:=Qc (rfl:gX f131 []=_)
def Z6o:=Qc (rfl:gX f132 []=_)
def Z6y:=Qc (rfl:gX f133 []=_)
def Zdg:=Qc (rfl:gX f134 []=_)
def Zbg:=Qc (rfl:gX f135 []=_)
def Z79:=Qc (rfl:gX f136 []=_)
def Z6r:=Qc (rfl:gX f137 []=_)
def Z9a:=Qc (rfl:gX f138 []=_)
def Zak:=Qc (rfl:gX f139 []=_)
def Z7o:=Qc (rfl:gX f140 []=_)
def Zap:=Qc (rfl:gX f141 []=_)
def Z88:=Qc (rfl:gX f142 []=_)
def Z5q:=Qc (rfl:gX f143 []=_)
def Z3w:=Qc (rfl:gX f144 []=_)
def Z8d:CFunc:=Qc (show gX f145 [false,true]=_ from rfl)
def Z6q:=Qc (rfl:gX f146 []=_)
def Ze6:=Qc (rfl:gX f147 []=_)
def Z3s:=Qc (rfl:gX f148 []=_)
def Zdx:=Qc (rfl:gX f149 []=_)
def Z8n:=Qc (rfl:gX f150 []=_)
def Zfh:=Qc (rfl:gX f151 []=_)
def Z47:=Qc (rfl:gX f152 []=_)
def Z69:=Qc (rfl:gX f153 []=_)
def Zaj:=Qc (rfl:gX f154 []=_)
def Z8x:=Qc (rfl:gX f155 []=_)
def Z3a:=Qc (rfl:gX f156 []=_)
def Z7k:=Qc (rfl:gX f157 []=_)
def Ze9:=Qc (rfl:gX f158 []=_)
def Zc8:=Qc (rfl:gX f159 []=_)
def Z39:=Qc (rfl:gX f160 []=_)
def Z8a:=Qc (rfl:gX f161 []=_)
def Z7x:=Qc (rfl:gX f162 []=_)
def Z4b:=Qc (rfl:gX f163 []=_)
def Z8z:=Qc (rfl:gX f164 []=_)
def Z4m:=Qc (rfl:gX f165 []=_)
def Zch:=Qc (rfl:gX f166 []=_)
def Zb0:=Qc (rfl:gX f167 []=_)
def Z3d:=Qc (rfl:gX f168 []=_)
def Z60:=Qc (rfl:gX f169 []=_)
def Z7a:=Qc (rfl:gX f170 []=_)
def Zay:=Qc (rfl:gX f171 []=_)
def Zfs:=Qc (rfl:gX f172 []=_)
def Z7u:=Qc (rfl:gX f173 []=_)
def Z94:=Qc (rfl:gX f174 []=_)
def Za6:=Qc (rfl:gX f175 []=_)
def Z8m:=Qc (rfl:gX f176 []=_)
def Za8:=Qc (rfl:gX f177 []=_)
def Za5:=Qc (rfl:gX f178 []=_)
def Z9o:=Qc (rfl:gX f179 []=_)
def Z6z:=Qc (rfl:gX f180 []=_)
def Z6f:=Qc (rfl:gX f181 []=_)
def Z5b:=Qc (rfl:gX f182 []=_)
def Zcv:=Qc (rfl:gX f183 []=_)
def Z9z:=Qc (rfl:gX f184 []=_)
def Zac:=Qc (rfl:gX f186 []=_)
def Zfr:=Qc (rfl:gX f187 []=_)
def Z98:CFunc:=Qc (show gX f188 [false,true,true,false,false,true,true]=_ from rfl)
def Zaw:CFunc:=Qc (show gX f189 [false,false,true,true,true]=_ from rfl)
def Z9p:=Qc (rfl:gX f190 []=_)
def Zcf:=Qc (rfl:gX f191 []=_)
def Z83:=Qc (rfl:gX f192 []=_)
def Zco:=Qc (rfl:gX f193 []=_)
def Zfu:=Qc (rfl:gX f194 []=_)
def Ze0:=Qc (rfl:gX f195 []=_)
def Ze2:=Qc (rfl:gX f196 []=_)
def Zad:=Qc (rfl:gX f197 []=_)
def Z7y:=Qc (rfl:gX f198 []=_)
def Zb2:=Qc (rfl:gX f199 []=_)
def Z65:=Qc (rfl:gX f200 []=_)
def Zdz:=Qc (rfl:gX f201 []=_)
def Zba:=Qc (rfl:gX f202 []=_)
def Zct:=Qc (rfl:gX f203 []=_)
def Z51:=Qc (rfl:gX f204 []=_)
def Zcm:=Qc (rfl:gX f205 []=_)
def Zd9:=Qc (rfl:gX f206 []=_)
def Z78:=Qc (rfl:gX f207 []=_)
def Zb8:=Qc (rfl:gX f208 []=_)
def Z9g:=Qc (rfl:gX f209 []=_)
def Zbq:=Qc (rfl:gX f210 []=_)
def Z9f:=Qc (rfl:gX f211 []=_)
def Z7l:=Qc (rfl:gX f212 []=_)
def Z40:=Qc (rfl:gX f213 []=_)
def Z7v:=Qc (rfl:gX f214 []=_)
def Z4f:=Qc (rfl:gX f215 []=_)
def Z3x:=Qc (rfl:gX f216 []=_)
def Zck:=Qc (rfl:gX f217 []=_)
def Z58:CFunc:=Qc (show gX f218 [false,false,false,false,false,true,true,false,false,true,false,true,false,true,false,true,false,true,false,true]=_ from rfl)
def Z4o:=Qc (rfl:gX f219 []=_)
def Z73:=Qc (rfl:gX f220 []=_)
def Zfq:=Qc (rfl:gX f221 []=_)
def Zbu:=Qc (rfl:gX f222 []=_)
def Z9c:=Qc (rfl:gX f223 []=_)
def Zdy:=Qc (rfl:gX f224 []=_)
def Z6v:=Qc (rfl:gX f225 []=_)
def Zff:=Qc (rfl:gX f226 []=_)
def Zb5:=Qc (rfl:gX f228 []=_)
def Z8e:=Qc (rfl:gX f229 []=_)
def Zcb:=Qc (rfl:gX f230 []=_)
def Z6a:=Qc (rfl:gX f231 []=_)
def Z75:=Qc (rfl:gX f232 []=_)
def Z8y:=Qc (rfl:gX f233 []=_)
def Zel:=Qc (rfl:gX f234 []=_)
def Z4i:=Qc (rfl:gX f235 []=_)
def Z70:=Qc (rfl:gX f236 []=_)
def Z6h:=Qc (rfl:gX f237 []=_)
def Z9v:=Qc (rfl:gX f238 []=_)
def Z3v:=Qc (rfl:gX f239 []=_)
def Z8r:=Qc (rfl:gX f240 []=_)
def Zas:=Qc (rfl:gX f241 []=_)
def Z9l:=Qc (rfl:gX f242 []=_)
def Z4q:=Qc (rfl:gX f243 []=_)
def Zdn:=Qc (rfl:gX f244 []=_)
def Z6l:=Qc (rfl:gX f245 []=_)
def Z8f:=Qc (rfl:gX f246 []=_)
def Zfg:=Qc (rfl:gX f247 []=_)
def Zbe:=Qc (rfl:gX f248 []=_)
def Zdm:=Qc (rfl:gX f249 []=_)
def Z4y:=Qc (rfl:gX f250 []=_)
def Z8u:=Qc (rfl:gX f251 []=_)
def Ze1:=Qc (rfl:gX f252 []=_)
def Z8k:=Qc (rfl:gX f253 []=_)
def Z5e:=Qc (rfl:gX f254 []=_)
def Zbo:=Qc (rfl:gX f255 []=_)
def Zd2:=Qc (rfl:gX f256 []=_)
def Zaf:CFunc:=Qc (show gX f257 [false,false,false,false,false,false,true]=_ from rfl)
def Zf0:=Qc (rfl:gX f258 []=_)
def Z7n:=Qc (rfl:gX f259 []=_)
def Z3m:=Qc (rfl:gX f260 []=_)
def Z6p:=Qc (rfl:gX f261 []=_)
def Z5f:=Qc (rfl:gX f262 []=_)
def Z6u:=Qc (rfl:gX f263 []=_)
def Z95:=Qc (rfl:gX f264 []=_)
def Zar:=Qc (rfl:gX f265 []=_)
def Zdl:=Qc (rfl:gX f266 []=_)
def Z9x:=Qc (rfl:gX f267 []=_)
def Zdf:=Qc (rfl:gX f268 []=_)
def Z80:=Qc (rfl:gX f269 []=_)
def Zdo:=Qc (rfl:gX f270 []=_)
def Ze8:=Qc (rfl:gX f271 []=_)
def Z74:=Qc (rfl:gX f272 []=_)
def Zde:=Qc (rfl:gX f273 []=_)
def Zdu:=Qc (rfl:gX f274 []=_)
def Z5r:=Qc (rfl:gX f275 []=_)
def Z4r:=Qc (rfl:gX f276 []=_)
def Z5n:=Qc (rfl:gX f277 []=_)
def Zf5:=Qc (rfl:gX f278 []=_)
def Z3h:=Qc (rfl:gX f279 []=_)
def Zbl:=Qc (rfl:gX f280 []=_)
def Z6s:=Qc (rfl:gX f281 []=_)
def Za4:=Qc (rfl:gX f282 []=_)
def Zbc:=Qc (rfl:gX f283 []=_)
def Z85:=Qc (rfl:gX f284 []=_)
def Z43:=Qc (rfl:gX f285 []=_)
def Zf4:=Qc (rfl:gX f286 []=_)
def Zfo:=Qc (rfl:gX f287 []=_)
def Z5g:=Qc (rfl:gX f288 []=_)
def Zds:=Qc (rfl:gX f289 []=_)
def Z9h:=Qc (rfl:gX f290 []=_)
def Za1:=Qc (rfl:gX f291 []=_)
def Zag:=Qc (rfl:gX f292 []=_)
def Z44:=Qc (rfl:gX f293 []=_)
def Z3j:=Qc (rfl:gX f294 []=_)
def Z93:=Qc (rfl:gX f295 []=_)
def Zb6:=Qc (rfl:gX f296 []=_)
def Zet:=Qc (rfl:gX f297 []=_)
def Z8l:=Qc (rfl:gX f298 []=_)
def Zeo:=Qc (rfl:gX f299 []=_)
def Zf7:=Qc (rfl:gX f300 []=_)
def Z67:=Qc (rfl:gX f301 []=_)
def Z3y:=Qc (rfl:gX f302 []=_)
def Z9i:=Qc (rfl:gX f303 []=_)
def Z92:=Qc (rfl:gX f304 []=_)
def Z9d:=Qc (rfl:gX f305 []=_)
def Zep:=Qc (rfl:gX f306 []=_)
def Z4k:=Qc (rfl:gX f307 []=_)
def Zc2:=Qc (rfl:gX f308 []=_)
def Zeg:=Qc (rfl:gX f309 []=_)
def Z5y:=Qc (rfl:gX f310 []=_)
def Zfk:=Qc (rfl:gX f311 []=_)
def Zdt:=Qc (rfl:gX f312 []=_)
def Z5t:=Qc (rfl:gX f313 []=_)
def Z5x:=Qc (rfl:gX f314 []=_)
def Zc4:=Qc (rfl:gX f315 []=_)
def Zbx:=Qc (rfl:gX f316 []=_)
def Zek:=Qc (rfl:gX f317 []=_)
def Zah:=Qc (rfl:gX f318 []=_)
def Z84:=Qc (rfl:gX f319 []=_)
def Zbr:=Qc (rfl:gX f320 []=_)
def Zal:=Qc (rfl:gX f321 []=_)
def Z5i:=Qc (rfl:gX f322 []=_)
def Zda:=Qc (rfl:gX f323 []=_)
def Zew:=Qc (rfl:gX f324 []=_)
def Ze4:=Qc (rfl:gX f325 []=_)
def Za7:=Qc (rfl:gX f326 []=_)
def Z4n:=Qc (rfl:gX f327 []=_)
def Zbs:=Qc (rfl:gX f328 []=_)
def Z3e:=Qc (rfl:gX f329 []=_)
def Zfe:=Qc (rfl:gX f330 []=_)
def Z9r:=Qc (rfl:gX f331 []=_)
def Z38:=Qc (rfl:gX f332 []=_)
def Zai:=Qc (rfl:gX f333 []=_)
def Z59:=Qc (rfl:gX f334 []=_)
def Z4x:=Qc (rfl:gX f335 []=_)
def Z3n:=Qc (rfl:gX f336 []=_)
def Z5o:=Qc (rfl:gX f337 []=_)
def Zfa:=Qc (rfl:gX f338 []=_)
def Z4v:=Qc (rfl:gX f339 []=_)
def Z5s:=Qc (rfl:gX f340 []=_)
def Z72:=Qc (rfl:gX f341 []=_)
def Zbv:=Qc (rfl:gX f342 []=_)
def Z9s:=Qc (rfl:gX f343 []=_)
def Zcr:=Qc (rfl:gX f344 []=_)
def Z56:=Qc (rfl:gX f345 []=_)
def Z9b:=Qc (rfl:gX f346 []=_)
def Z8v:=Qc (rfl:gX f347 []=_)
def Z97:=Qc (rfl:gX f348 []=_)
def Zbn:=Qc (rfl:gX f349 []=_)
def Z50:=Qc (rfl:gX f350 []=_)
def Zc9:=Qc (rfl:gX f351 []=_)
def Zc6:=Qc (rfl:gX f352 []=_)
def Zfj:=Qc (rfl:gX f353 []=_)
def Z6i:=Qc (rfl:gX f354 []=_)
def Z9m:=Qc (rfl:gX f355 []=_)
def Z57:=Qc (rfl:gX f356 []=_)
def Z4j:=Qc (rfl:gX f357 []=_)
def Z6x:=Qc (rfl:gX f358 []=_)
def Z7d:=Qc (rfl:gX f359 []=_)
def Zcg:=Qc (rfl:gX f360 []=_)
def Z4u:=Qc (rfl:gX f361 []=_)
def Zeu:=Qc (rfl:gX f362 []=_)
def Z35:=Qc (rfl:gX f363 []=_)
def Z7e:=Qc (rfl:gX f364 []=_)
def Z48:=Qc (rfl:gX f365 []=_)
def Zaa:=Qc (rfl:gX f366 []=_)
def Zdj:=Qc (rfl:gX f367 []=_)
def Z3c:=Qc (rfl:gX f368 []=_)
def Zb1:=Qc (rfl:gX f369 []=_)
def Z6t:=Qc (rfl:gX f370 []=_)
def Zft:=Qc (rfl:gX f371 []=_)
def Z90:=Qc (rfl:gX f372 []=_)
def Z34:=Qc (rfl:gX f373 []=_)
def Z6k:=Qc (rfl:gX f374 []=_)
def Zfn:=Qc (rfl:gX f375 []=_)
def Z9t:=Qc (rfl:gX f376 []=_)
def Z4z:=Qc (rfl:gX f377 []=_)
def Z8t:=Qc (rfl:gX f378 []=_)
def Z4t:=Qc (rfl:gX f379 []=_)
def Z8g:=Qc (rfl:gX f380 []=_)
def Z3t:=Qc (rfl:gX f381 []=_)
def Zbm:=Qc (rfl:gX f382 []=_)
def Z7m:=Qc (rfl:gX f383 []=_)
def Z3o:=Qc (rfl:gX f384 []=_)
def Z3b:=Qc (rfl:gX f385 []=_)
def Zc3:=Qc (rfl:gX f386 []=_)
def Z49:=Qc (rfl:gX f387 []=_)
def Zcx:=Qc (rfl:gX f388 []=_)
def Z63:=Qc (rfl:gX f389 []=_)
def Zbj:=Qc (rfl:gX f390 []=_)
def Zc1:=Qc (rfl:gX f391 []=_)
def Z82:=Qc (rfl:gX f392 []=_)
def Zdq:=Qc (rfl:gX f393 []=_)
def Z76:=Qc (rfl:gX f394 []=_)
def Zer:=Qc (rfl:gX f395 []=_)
def Z7i:=Qc (rfl:gX f396 []=_)
def Z9j:=Qc (rfl:gX f397 []=_)
def Zav:=Qc (rfl:gX f398 []=_)
def Zcl:=Qc (rfl:gX f399 []=_)
def Zbf:CFunc:=Qc (show gX f400 [false,false,true]=_ from rfl)
def Z8q:=Qc (rfl:gX f401 []=_)
def Zcj:=Qc (rfl:gX f402 []=_)
def Z4w:=Qc (rfl:gX f403 []=_)
def Z6e:=Qc (rfl:gX f404 []=_)
def Z54:=Qc (rfl:gX f405 []=_)
def Z6w:=Qc (rfl:gX f406 []=_)
def Z6c:=Qc (rfl:gX f407 []=_)
def Z52:=Qc (rfl:gX f408 []=_)
def Ze3:=Qc (rfl:gX f409 []=_)
def Z3p:=Qc (rfl:gX f410 []=_)
def Z64:=Qc (rfl:gX f411 []=_)
def Zes:=Qc (rfl:gX f412 []=_)
def Za9:=Qc (rfl:gX f413 []=_)
def Zbp:=Qc (rfl:gX f414 []=_)
def Z8s:=Qc (rfl:gX f415 []=_)
def Z5w:=Qc (rfl:gX f416 []=_)
def Z87:=Qc (rfl:gX f417 []=_)
def Zed:=Qc (rfl:gX f418 []=_)
def Z6j:=Qc (rfl:gX f419 []=_)
def Z3f:=Qc (rfl:gX f420 []=_)
def Zfi:=Qc (rfl:gX f421 []=_)
def Zbt:=Qc (rfl:gX f422 []=_)
def Zaz:=Qc (rfl:gX f423 []=_)
def Zcs:=Qc (rfl:gX f424 []=_)
def Zeh:=Qc (rfl:gX f426 []=_)
def Z96:=Qc (rfl:gX f429 []=_)
def Zd0:=Qc (rfl:gX f430 []=_)
def Z9k:=Qc (rfl:gX f431 []=_)
def Ze7:=Qc (rfl:gX f432 []=_)
def Z71:=Qc (rfl:gX f433 []=_)
def Zd3:=Qc (rfl:gX f434 []=_)
def Zcw:=Qc (rfl:gX f435 []=_)
def Zf8:=Qc (rfl:gX f436 []=_)
def Zex:=Qc (rfl:gX f437 []=_)
def Zby:=Qc (rfl:gX f438 []=_)
def Z55:=Qc (rfl:gX f439 []=_)
def Zao:=Qc (rfl:gX f457 []=_)
def Z9q:=Qc (rfl:gX f459 []=_)
def Zdv:=Qc (rfl:gX f460 []=_)
def Z68:=Qc (rfl:gX f461 []=_)
def Z5l:=Qc (rfl:gX f462 []=_)
def Zb3:=Qc (rfl:gX f463 []=_)
def Zeq:=Qc (rfl:gX f464 []=_)
def Z7p:=Qc (rfl:gX f465 []=_)
def Z5j:=Qc (rfl:gX f467 []=_)
def Zd6:=Qc (rfl:gX f469 []=_)
def Zen:=Qc (rfl:gX f471 []=_)
def Qz8:List (Option CFunc) := [none,none,none,none,none,some c5,some c6,some c7,some c8,some c9,some c10,none,some c12,none,none,some c15,some c16,some c17,some c18,some c19,some c20,some c21,some c22,some c23,some c24,some c25,some c26,some c27,some c28,some c29,some c30,some c31,some c32,some c33,some c34,some c35,some c36,none,some c38,some c39,some c40,some c41,some c42,some c43,some c44,some c45,some c46,some c47,some c48,some c49,some c50,some c51,some c52,some c53,some c54,some c55,some c56,some c57,some c58,some c59,some c60,some c61,some c62,some c63,some c64,some c65,some c66,some c67,some c68,some c69,some c70,some c71,some c72,some c73,some c74,some c75,some c76,some c77,some c78,none,some c80,some c81,some c82,some c83,some c84,some c85,some c86,some c87,some c88,some c89,some c90,some c91,some c92,some c93,some c94,some c95,some c96,some c97,some c98,some c99,some Zdb,some Zcq,some Z7q,some Zbw,some Z7b,some Z36,some Zfm,some Z7j,some Z46,some Zci,some Zdk,some Zce,some Zbk,some Zd1,some Z5c,some Zem,some Zeb,some Zec,some Zd8,some Za2,some Zf2,some Zfb,some Z4e,some Z61,some Z4d,some Z86,some Zb4,some Zaq,some Z8p,some Z4h,some Z8c,some Z41,some Z6o,some Z6y,some Zdg,some Zbg,some Z79,some Z6r,some Z9a,some Zak,some Z7o,some Zap,some Z88,some Z5q,some Z3w,some Z8d,some Z6q,some Ze6,some Z3s,some Zdx,some Z8n,some Zfh,some Z47,some Z69,some Zaj,some Z8x,some Z3a,some Z7k,some Ze9,some Zc8,some Z39,some Z8a,some Z7x,some Z4b,some Z8z,some Z4m,some Zch,some Zb0,some Z3d,some Z60,some Z7a,some Zay,some Zfs,some Z7u,some Z94,some Za6,some Z8m,some Za8,some Za5,some Z9o,some Z6z,some Z6f,some Z5b,some Zcv,some Z9z,none,some Zac,some Zfr,some Z98,some Zaw,some Z9p,some Zcf,some Z83,some Zco,some Zfu,some Ze0,some Ze2,some Zad,some Z7y,some Zb2,some Z65,some Zdz,some Zba,some Zct,some Z51,some Zcm,some Zd9,some Z78,some Zb8,some Z9g,some Zbq,some Z9f,some Z7l,some Z40,some Z7v,some Z4f,some Z3x,some Zck,some Z58,some Z4o,some Z73,some Zfq,some Zbu,some Z9c,some Zdy,some Z6v,some Zff,none,some Zb5,some Z8e,some Zcb,some Z6a,some Z75,some Z8y,some Zel,some Z4i,some Z70,some Z6h,some Z9v,some Z3v,some Z8r,some Zas,some Z9l,some Z4q,some Zdn,some Z6l,some Z8f,some Zfg,some Zbe,some Zdm,some Z4y,some Z8u,some Ze1,some Z8k,some Z5e,some Zbo,some Zd2,some Zaf,some Zf0,some Z7n,some Z3m,some Z6p,some Z5f,some Z6u,some Z95,some Zar,some Zdl,some Z9x,some Zdf,some Z80,some Zdo,some Ze8,some Z74,some Zde,some Zdu,some Z5r,some Z4r,some Z5n,some Zf5,some Z3h,some Zbl,some Z6s,some Za4,some Zbc,some Z85,some Z43,some Zf4,some Zfo,some Z5g,some Zds,some Z9h,some Za1,some Zag,some Z44,some Z3j,some Z93,some Zb6,some Zet,some Z8l,some Zeo,some Zf7,some Z67,some Z3y,some Z9i,some Z92,some Z9d,some Zep,some Z4k,some Zc2,some Zeg,some Z5y,some Zfk,some Zdt,some Z5t,some Z5x,some Zc4,some Zbx,some Zek,some Zah,some Z84,some Zbr,some Zal,some Z5i,some Zda,some Zew,some Ze4,some Za7,some Z4n,some Zbs,some Z3e,some Zfe,some Z9r,some Z38,some Zai,some Z59,some Z4x,some Z3n,some Z5o,some Zfa,some Z4v,some Z5s,some Z72,some Zbv,some Z9s,some Zcr,some Z56,some Z9b,some Z8v,some Z97,some Zbn,some Z50,some Zc9,some Zc6,some Zfj,some Z6i,some Z9m,some Z57,some Z4j,some Z6x,some Z7d,some Zcg,some Z4u,some Zeu,some Z35,some Z7e,some Z48,some Zaa,some Zdj,some Z3c,some Zb1,some Z6t,some Zft,some Z90,some Z34,some Z6k,some Zfn,some Z9t,some Z4z,some Z8t,some Z4t,some Z8g,some Z3t,some Zbm,some Z7m,some Z3o,some Z3b,some Zc3,some Z49,some Zcx,some Z63,some Zbj,some Zc1,some Z82,some Zdq,some Z76,some Zer,some Z7i,some Z9j,some Zav,some Zcl,some Zbf,some Z8q,some Zcj,some Z4w,some Z6e,some Z54,some Z6w,some Z6c,some Z52,some Ze3,some Z3p,some Z64,some Zes,some Za9,some Zbp,some Z8s,some Z5w,some Z87,some Zed,some Z6j,some Z3f,some Zfi,some Zbt,some Zaz,some Zcs,none,some Zeh,none,none,some Z96,some Zd0,some Z9k,some Ze7,some Z71,some Zd3,some Zcw,some Zf8,some Zex,some Zby,some Z55,none,none,none,none,none,none,none,none,none,none,none,none,none,none,none,none,none,some Zao,none,some Z9q,some Zdv,some Z68,some Z5l,some Zb3,some Zeq,some Z7p,none,some Z5j,none,some Zd6,none,some Zen]
end
end Go.Av
