/- Part of FromsnNames: the law returns true; no condition. -/
import Derived.Test.YtfgpphgmjcnleaaGreatDoorAvGen
import Derived.Test.YtfgpphgmjcnleaaGreatDoorProg
set_option linter.all false
namespace Go.Av
open Go.Proofs.Tryz
noncomputable section
open Go.Proofs
set_option maxRecDepth 100000
abbrev w6:PV := .int .i64 0
abbrev wb:PV := .bool false
abbrev w1:PV := .int .u8 0
abbrev w8:PV := .int .u64 0
abbrev ws:PV := .str []
abbrev wn:PV := .nilSlice
def tyT:List TI := [⟨1,.func,1,8,[.nilFunc]⟩,
⟨2,.int .i64,1,8,[w6]⟩,
⟨3,.int .i64,1,8,[w6]⟩,
⟨4,.bool,1,1,[wb]⟩,
⟨5,.int .u8,1,1,[w1]⟩,
⟨9,.str,1,16,[ws]⟩,
⟨12,.int .u64,1,8,[w8]⟩,
⟨20,.iface,1,16,[.nilIface]⟩,
⟨21,.int .i32,1,4,[.int .i32 (0)]⟩,
⟨22,.func,1,8,[.nilFunc]⟩,
⟨23,.ptr,1,8,[.nilPtr]⟩,
⟨25,.slice 198,1,24,[wn]⟩,
⟨26,.slice 64,1,24,[wn]⟩,
⟨28,.struct [(0,9),(1,9),(2,3),(3,4),(4,25)],5,72,[ws,ws,w6,wb,wn]⟩,
⟨29,.slice 3,1,24,[wn]⟩,
⟨30,.slice 195,1,24,[wn]⟩,
⟨32,.struct [(0,3),(1,4),(2,4),(3,3),(4,3),(5,9),(6,9),(7,4),(8,3),(9,9),(10,4),(11,9),(12,4),(13,9),(14,4),(15,28),(20,4),(21,3),(22,29),(23,30),(24,25)],25,312,[w6,wb,wb,w6,w6,ws,ws,wb,w6,ws,wb,ws,wb,ws,wb,ws,ws,w6,wb,wn,wb,w6,wn,wn,wn]⟩,
⟨34,.struct [(0,4),(1,3),(2,4),(3,4),(4,4),(5,3)],6,32,[wb,w6,wb,wb,wb,w6]⟩,
⟨36,.struct [(0,3),(1,34),(7,3),(8,3),(9,3),(10,4),(11,3),(12,3),(13,3),(14,9),(15,9)],16,128,[w6,wb,w6,wb,wb,wb,w6,w6,w6,w6,wb,w6,w6,w6,ws,ws]⟩,
⟨37,.slice 166,1,24,[wn]⟩,
⟨39,.struct [(0,3),(1,3),(2,9),(3,37)],4,56,[w6,w6,ws,wn]⟩,
⟨41,.struct [(0,3),(1,3),(2,9),(3,9),(4,3),(5,4),(6,4),(7,3),(8,25),(9,3),(10,26),(11,3),(12,32),(37,36),(53,39)],57,632,[w6,w6,ws,ws,w6,wb,wb,w6,wn,w6,wn,w6,w6,wb,wb,w6,w6,ws,ws,wb,w6,ws,wb,ws,wb,ws,wb,ws,ws,w6,wb,wn,wb,w6,wn,wn,wn,w6,wb,w6,wb,wb,wb,w6,w6,w6,w6,wb,w6,w6,w6,ws,ws,w6,w6,ws,wn]⟩,
⟨42,.int .i64,1,8,[w6]⟩,
⟨46,.struct [(0,26),(1,36)],17,152,[wn,w6,wb,w6,wb,wb,wb,w6,w6,w6,w6,wb,w6,w6,w6,ws,ws]⟩,
⟨53,.struct [(0,3),(1,3)],2,16,[w6,w6]⟩,
⟨64,.struct [(0,3),(1,9)],2,24,[w6,ws]⟩,
⟨76,.ptr,1,8,[.nilPtr]⟩,
⟨78,.map 9 3,1,8,[.nilMap]⟩,
⟨79,.map 3 90,1,8,[.nilMap]⟩,
⟨80,.slice 3,1,24,[wn]⟩,
⟨82,.struct [(0,78),(1,79),(2,80),(3,3)],4,48,[.nilMap,.nilMap,wn,w6]⟩,
⟨83,.map 9 76,1,8,[.nilMap]⟩,
⟨85,.struct [(0,83)],1,8,[.nilMap]⟩,
⟨90,.struct [(0,3),(1,9),(2,4)],3,32,[w6,ws,wb]⟩,
⟨92,.func,1,8,[.nilFunc]⟩,
⟨94,.struct [(0,23),(1,9)],2,24,[.nilPtr,ws]⟩,
⟨96,.struct [],0,0,[]⟩,
⟨98,.struct [(0,94)],2,24,[.nilPtr,ws]⟩,
⟨99,.struct [(0,94)],2,24,[.nilPtr,ws]⟩,
⟨102,.func,1,8,[.nilFunc]⟩,
⟨106,.ptr,1,8,[.nilPtr]⟩,
⟨107,.slice 5,1,24,[wn]⟩,
⟨109,.struct [(0,106),(1,3),(2,36),(18,107),(19,4)],20,176,[.nilPtr,w6,w6,wb,w6,wb,wb,wb,w6,w6,w6,w6,wb,w6,w6,w6,ws,ws,wn,wb]⟩,
⟨113,.slice 90,1,24,[wn]⟩,
⟨116,.ptr,1,8,[.nilPtr]⟩,
⟨122,.struct [(0,22),(1,42)],2,16,[.nilFunc,w6]⟩,
⟨126,.slice 122,1,24,[wn]⟩,
⟨134,.int .u64,1,8,[w8]⟩,
⟨137,.ptr,1,8,[.nilPtr]⟩,
⟨138,.slice 1,1,24,[wn]⟩,
⟨142,.func,1,8,[.nilFunc]⟩,
⟨146,.func,1,8,[.nilFunc]⟩,
⟨148,.iface,1,16,[.nilIface]⟩,
⟨156,.struct [(0,9)],1,16,[ws]⟩,
⟨158,.map 3 156,1,8,[.nilMap]⟩,
⟨166,.struct [(0,3),(1,134),(2,9),(3,37)],4,56,[w6,w8,ws,wn]⟩,
⟨169,.func,1,8,[.nilFunc]⟩,
⟨171,.int .u64,1,8,[w8]⟩,
⟨174,.slice 9,1,24,[wn]⟩,
⟨180,.func,1,8,[.nilFunc]⟩,
⟨183,.array 256 4,256,256,List.replicate 256 wb⟩,
⟨189,.struct [(0,3),(1,3),(2,3),(3,3),(4,3),(5,4),(6,4),(7,4),(8,4),(9,4),(10,4),(11,4),(12,9),(13,9),(14,9),(15,9),(16,9)],17,128,[w6,w6,w6,w6,w6,wb,wb,wb,wb,wb,wb,wb,ws,ws,ws,ws,ws]⟩,
⟨195,.struct [(0,9),(1,3),(2,4),(3,4),(4,3)],5,40,[ws,w6,wb,wb,w6]⟩,
⟨196,.int .u32,1,4,[.int .u32 (0)]⟩,
⟨198,.struct [(0,3),(1,196),(2,9),(3,9)],4,48,[w6,.int .u32 (0),ws,ws]⟩,
⟨199,.map 3 204,1,8,[.nilMap]⟩,
⟨202,.array 64 3,64,512,List.replicate 64 w6⟩,
⟨204,.struct [(0,3),(1,3),(2,196),(3,196)],4,24,[w6,w6,.int .u32 (0),.int .u32 (0)]⟩,
⟨208,.func,1,8,[.nilFunc]⟩,
⟨209,.func,1,8,[.nilFunc]⟩,
⟨211,.struct [(0,208),(1,209)],2,16,[.nilFunc,.nilFunc]⟩,
⟨213,.map 3 211,1,8,[.nilMap]⟩,
⟨216,.struct [(0,3),(1,32)],26,320,[w6,w6,wb,wb,w6,w6,ws,ws,wb,w6,ws,wb,ws,wb,ws,wb,ws,ws,w6,wb,wn,wb,w6,wn,wn,wn]⟩,
⟨219,.slice 221,1,24,[wn]⟩,
⟨221,.struct [(0,166),(4,219),(5,3),(6,3)],7,96,[w6,w8,ws,wn,wn,w6,w6]⟩,
⟨225,.ptr,1,8,[.nilPtr]⟩,
⟨227,.ptr,1,8,[.nilPtr]⟩,
⟨228,.func,1,8,[.nilFunc]⟩,
⟨234,.int .i64,1,8,[w6]⟩,
⟨247,.func,1,8,[.nilFunc]⟩,
⟨249,.func,1,8,[.nilFunc]⟩,
⟨256,.struct [(0,3),(1,3),(2,3)],3,24,[w6,w6,w6]⟩,
⟨258,.struct [(0,3),(1,256),(4,9)],5,48,[w6,w6,w6,w6,ws]⟩,
⟨262,.func,1,8,[.nilFunc]⟩,
⟨263,.map 3 262,1,8,[.nilMap]⟩,
⟨267,.struct [(0,3),(1,3),(2,3),(3,4),(4,4)],5,32,[w6,w6,w6,wb,wb]⟩,
⟨273,.struct [(0,9),(1,3),(2,42)],3,32,[ws,w6,w6]⟩,
⟨276,.int .u64,1,8,[w8]⟩,
⟨285,.slice 267,1,24,[wn]⟩,
⟨288,.func,1,8,[.nilFunc]⟩,
⟨298,.struct [(0,106),(1,3)],2,16,[.nilPtr,w6]⟩,
⟨302,.ptr,1,8,[.nilPtr]⟩,
⟨317,.array 256 5,256,256,List.replicate 256 w1⟩,
⟨319,.struct [(0,5),(1,5)],2,2,[w1,w1]⟩,
⟨320,.array 16 319,32,32,List.replicate 32 w1⟩,
⟨322,.func,1,8,[.nilFunc]⟩,
⟨330,.struct [(0,4),(1,3)],2,16,[wb,w6]⟩,
⟨331,.slice 330,1,24,[wn]⟩,
⟨339,.ptr,1,8,[.nilPtr]⟩,
⟨340,.struct [],0,0,[]⟩,
⟨341,.map 3 92,1,8,[.nilMap]⟩,
⟨345,.slice 228,1,24,[wn]⟩,
⟨349,.ptr,1,8,[.nilPtr]⟩,
⟨351,.struct [(0,349),(1,107)],2,32,[.nilPtr,wn]⟩,
⟨358,.array 4 134,4,32,[w8,w8,w8,w8]⟩,
⟨362,.ptr,1,8,[.nilPtr]⟩,
⟨367,.struct [(0,3),(1,3),(2,4),(3,4)],4,24,[w6,w6,wb,wb]⟩,
⟨368,.map 3 372,1,8,[.nilMap]⟩,
⟨371,.struct [(0,106),(1,198)],5,56,[.nilPtr,w6,.int .u32 (0),ws,ws]⟩,
⟨372,.func,1,8,[.nilFunc]⟩,
⟨373,.ptr,1,8,[.nilPtr]⟩,
⟨382,.ptr,1,8,[.nilPtr]⟩,
⟨391,.other,1,8,[.nilPtr]⟩]
abbrev gX:=Qgl tyT [(244,1),(283,2)] [] []
def c3:=Q9 (rfl:gX f3 []=_)
def c4:=Q9 (rfl:gX f4 []=_)
def c5:=Q9 (rfl:gX f5 []=_)
def c6:CFunc:=Q9 (show Qgl tyT [(244,1),(283,2)] [(43,[(96,396),(98,398),(99,403)])] [] f6 []=_ from rfl)
def c7:=Q9 (rfl:gX f7 []=_)
def c8:CFunc:=Q9 (show Qgl tyT [(244,1),(283,2)] [(42,[(96,395),(98,397),(99,402)])] [] f8 []=_ from rfl)
def c9:=Q9 (rfl:gX f9 []=_)
def c10:=Q9 (rfl:gX f10 []=_)
def c11:=Q9 (rfl:gX f11 []=_)
def c12:=Q9 (rfl:gX f12 []=_)
def c13:=Q9 (rfl:gX f13 []=_)
def c14:=Q9 (rfl:gX f14 []=_)
def c15:=Q9 (rfl:gX f15 []=_)
def c16:=Q9 (rfl:gX f16 []=_)
def c17:=Q9 (rfl:gX f17 []=_)
def c18:=Q9 (rfl:gX f18 []=_)
def c19:=Q9 (rfl:gX f19 []=_)
def c20:=Q9 (rfl:gX f20 []=_)
def c21:=Q9 (rfl:gX f21 []=_)
def c22:=Q9 (rfl:gX f22 []=_)
def c23:=Q9 (rfl:gX f23 []=_)
def c24:=Q9 (rfl:gX f24 []=_)
def c25:=Q9 (rfl:gX f25 []=_)
def c26:=Q9 (rfl:gX f26 []=_)
def c27:=Q9 (rfl:gX f27 []=_)
def c28:=Q9 (rfl:gX f28 []=_)
def c29:=Q9 (rfl:gX f29 []=_)
def c30:=Q9 (rfl:gX f30 []=_)
def c31:=Q9 (rfl:gX f31 []=_)
def c32:=Q9 (rfl:gX f32 []=_)
def c33:=Q9 (rfl:gX f33 []=_)
def c34:CFunc:=Q9 (show gX f34 [false,false,true]=_ from rfl)
def c35:=Q9 (rfl:gX f35 []=_)
def c36:=Q9 (rfl:gX f36 []=_)
def c37:=Q9 (rfl:gX f37 []=_)
def c38:=Q9 (rfl:gX f38 []=_)
def c39:=Q9 (rfl:gX f39 []=_)
def c40:=Q9 (rfl:gX f40 []=_)
def c41:=Q9 (rfl:gX f41 []=_)
def c42:=Q9 (rfl:gX f42 []=_)
def c43:CFunc:=Q9 (show gX f43 [false,false,false,false,false,true,true,false,false,true,false,true,false,true,false,true,false,true,false,true]=_ from rfl)
def c44:=Q9 (rfl:gX f44 []=_)
def c45:=Q9 (rfl:gX f45 []=_)
def c46:=Q9 (rfl:gX f46 []=_)
def c47:=Q9 (rfl:gX f47 []=_)
def c48:=Q9 (rfl:gX f48 []=_)
def c49:=Q9 (rfl:gX f49 []=_)
def c50:=Q9 (rfl:gX f50 []=_)
def c51:=Q9 (rfl:gX f51 []=_)
def c52:CFunc:=Q9 (show Qgl tyT [(244,1),(283,2)] [(4,[(116,405),(362,332)]),(8,[(0,0),(116,391)])] [] f52 []=_ from rfl)
def c53:=Q9 (rfl:gX f53 []=_)
def c54:=Q9 (rfl:gX f54 []=_)
def c55:=Q9 (rfl:gX f55 []=_)
def c56:CFunc:=Q9 (show Qgl tyT [(244,1),(283,2)] [(4,[(0,0),(116,391)]),(7,[(0,0),(116,393)]),(13,[(116,404)])] [] f56 []=_ from rfl)
def c57:=Q9 (rfl:gX f57 []=_)
def c58:=Q9 (rfl:gX f58 []=_)
def c59:=Q9 (rfl:gX f59 []=_)
def c60:=Q9 (rfl:gX f60 []=_)
def c61:=Q9 (rfl:gX f61 []=_)
def c62:=Q9 (rfl:gX f62 []=_)
def c63:=Q9 (rfl:gX f63 []=_)
def c64:=Q9 (rfl:gX f64 []=_)
def c65:=Q9 (rfl:gX f65 []=_)
def c66:=Q9 (rfl:gX f66 []=_)
def c67:=Q9 (rfl:gX f67 []=_)
def c68:=Q9 (rfl:gX f68 []=_)
def c69:=Q9 (rfl:gX f69 []=_)
def c70:=Q9 (rfl:gX f70 []=_)
def c71:=Q9 (rfl:gX f71 []=_)
def c72:=Q9 (rfl:gX f72 []=_)
def c73:=Q9 (rfl:gX f73 []=_)
def c74:=Q9 (rfl:gX f74 []=_)
def c75:=Q9 (rfl:gX f75 []=_)
def c76:=Q9 (rfl:gX f76 []=_)
def c77:=Q9 (rfl:gX f77 []=_)
def c78:=Q9 (rfl:gX f78 []=_)
def c79:=Q9 (rfl:gX f79 []=_)
def c80:=Q9 (rfl:gX f80 []=_)
def c81:=Q9 (rfl:gX f81 []=_)
def c82:=Q9 (rfl:gX f82 []=_)
def c83:=Q9 (rfl:gX f83 []=_)
def c84:=Q9 (rfl:gX f84 []=_)
def c85:=Q9 (rfl:gX f85 []=_)
def c86:=Q9 (rfl:gX f86 []=_)
def c87:=Q9 (rfl:gX f87 []=_)
def c88:=Q9 (rfl:gX f88 []=_)
def c89:=Q9 (rfl:gX f89 []=_)
def c90:=Q9 (rfl:gX f90 []=_)
def c91:=Q9 (rfl:gX f91 []=_)
def c92:CFunc:=Q9 (show Qgl tyT [(244,1),(283,2)] [(12,[(0,0),(116,392)]),(18,[(0,0),(116,393)])] [] f92 []=_ from rfl)
def c93:=Q9 (rfl:gX f93 []=_)
def c94:CFunc:=Q9 (show Qgl tyT [(244,1),(283,2)] [(29,[(0,0),(116,392)]),(35,[(0,0),(116,392)]),(40,[(0,0),(116,393)])] [] f94 []=_ from rfl)
def c95:=Q9 (rfl:gX f95 []=_)
def c96:=Q9 (rfl:gX f96 []=_)
def c97:=Q9 (rfl:gX f97 []=_)
def c98:=Q9 (rfl:gX f98 []=_)
def c99:=Q9 (rfl:gX f99 []=_)
def Z2u:=Q9 (rfl:gX f100 []=_)
def Z30:=Q9 (rfl:gX f101 []=_)
def Z12:=Q9 (rfl:gX f102 []=_)
def Z48:=Q9 (rfl:gX f103 []=_)
def Qv7:CFunc:=Q9 (show gX f104 [false,false,true,true,true]=_ from rfl)
def Z1d:=Q9 (rfl:gX f105 []=_)
def Z2j:=Q9 (rfl:gX f106 []=_)
def Z1f:=Q9 (rfl:gX f107 []=_)
def Qy0:=Q9 (rfl:gX f108 []=_)
def Z2b:=Q9 (rfl:gX f109 []=_)
def Qyh:=Q9 (rfl:gX f110 []=_)
def Qui:=Q9 (rfl:gX f111 []=_)
def Qxg:=Q9 (rfl:gX f112 []=_)
def Quy:=Q9 (rfl:gX f113 []=_)
def Z1l:=Q9 (rfl:gX f114 []=_)
def Qux:=Q9 (rfl:gX f115 []=_)
def Qvq:=Q9 (rfl:gX f116 []=_)
def Qwi:=Q9 (rfl:gX f117 []=_)
def Z1h:=Q9 (rfl:gX f118 []=_)
def Z24:=Q9 (rfl:gX f119 []=_)
def Qz1:=Q9 (rfl:gX f120 []=_)
def Qv3:=Q9 (rfl:gX f121 []=_)
def Qx1:=Q9 (rfl:gX f122 []=_)
def Qxi:=Q9 (rfl:gX f123 []=_)
def Qyy:=Q9 (rfl:gX f124 []=_)
def Qut:=Q9 (rfl:gX f125 []=_)
def Qx7:=Q9 (rfl:gX f126 []=_)
def Z0s:=Q9 (rfl:gX f127 []=_)
def Qxs:=Q9 (rfl:gX f128 []=_)
def Qvg:=Q9 (rfl:gX f129 []=_)
def Z15:=Q9 (rfl:gX f130 []=_)
def Qzs:CFunc:=Q9 (show gX f131 [false,true]=_ from rfl)
def Z0o:=Q9 (rfl:gX f132 []=_)
def Qwu:=Q9 (rfl:gX f133 []=_)
def Z1p:=Q9 (rfl:gX f134 []=_)
def Z27:=Q9 (rfl:gX f135 []=_)
def Qwa:=Q9 (rfl:gX f136 []=_)
def Qw0:=Q9 (rfl:gX f137 []=_)
def Qw3:=Q9 (rfl:gX f138 []=_)
def Z0r:=Q9 (rfl:gX f139 []=_)
def Qyk:=Q9 (rfl:gX f140 []=_)
def Z4d:=Q9 (rfl:gX f141 []=_)
def Qxd:=Q9 (rfl:gX f142 []=_)
def Qzw:=Q9 (rfl:gX f143 []=_)
def Qzq:=Q9 (rfl:gX f144 []=_)
def Qur:=Q9 (rfl:gX f145 []=_)
def Z0v:=Q9 (rfl:gX f146 []=_)
def Quw:=Q9 (rfl:gX f147 []=_)
def Z34:=Q9 (rfl:gX f148 []=_)
def Qx5:=Q9 (rfl:gX f149 []=_)
def Qya:=Q9 (rfl:gX f150 []=_)
def Qyj:=Q9 (rfl:gX f151 []=_)
def Qzh:=Q9 (rfl:gX f152 []=_)
def Z2x:=Q9 (rfl:gX f153 []=_)
def Qva:=Q9 (rfl:gX f154 []=_)
def Qxy:=Q9 (rfl:gX f155 []=_)
def Qv5:=Q9 (rfl:gX f156 []=_)
def Z1i:=Q9 (rfl:gX f157 []=_)
def Qzb:=Q9 (rfl:gX f158 []=_)
def Z1r:=Q9 (rfl:gX f159 []=_)
def Qv0:=Q9 (rfl:gX f160 []=_)
def Z1u:=Q9 (rfl:gX f161 []=_)
def Qwk:=Q9 (rfl:gX f162 []=_)
def Qvh:=Q9 (rfl:gX f163 []=_)
def Qx0:=Q9 (rfl:gX f164 []=_)
def Qy5:=Q9 (rfl:gX f165 []=_)
def Qvm:=Q9 (rfl:gX f166 []=_)
def Qvx:=Q9 (rfl:gX f167 []=_)
def Qwz:=Q9 (rfl:gX f168 []=_)
def Z2m:=Q9 (rfl:gX f169 []=_)
def Qyb:=Q9 (rfl:gX f170 []=_)
def Z2a:=Q9 (rfl:gX f171 []=_)
def Z0t:=Q9 (rfl:gX f172 []=_)
def Qx3:=Q9 (rfl:gX f173 []=_)
def Z40:=Q9 (rfl:gX f174 []=_)
def Z0b:=Q9 (rfl:gX f175 []=_)
def Quu:=Q9 (rfl:gX f176 []=_)
def Qy6:=Q9 (rfl:gX f177 []=_)
def Qx9:=Q9 (rfl:gX f179 []=_)
def Qvb:=Q9 (rfl:gX f180 []=_)
def Z3q:=Q9 (rfl:gX f181 []=_)
def Z2t:=Q9 (rfl:gX f182 []=_)
def Qwm:=Q9 (rfl:gX f183 []=_)
def Qwj:=Q9 (rfl:gX f184 []=_)
def Qvz:=Q9 (rfl:gX f185 []=_)
def Z3p:=Q9 (rfl:gX f186 []=_)
def Z01:=Q9 (rfl:gX f187 []=_)
def Z17:=Q9 (rfl:gX f188 []=_)
def Z0c:=Q9 (rfl:gX f189 []=_)
def Qw8:=Q9 (rfl:gX f190 []=_)
def Qv6:=Q9 (rfl:gX f191 []=_)
def Z0a:=Q9 (rfl:gX f192 []=_)
def Z0n:=Q9 (rfl:gX f193 []=_)
def Z46:=Q9 (rfl:gX f194 []=_)
def Z1x:=Q9 (rfl:gX f195 []=_)
def Z4p:=Q9 (rfl:gX f196 []=_)
def Z05:=Q9 (rfl:gX f197 []=_)
def Z32:=Q9 (rfl:gX f198 []=_)
def Qwo:=Q9 (rfl:gX f199 []=_)
def Z1b:=Q9 (rfl:gX f200 []=_)
def Z1z:=Q9 (rfl:gX f201 []=_)
def Qxz:=Q9 (rfl:gX f202 []=_)
def Z3b:=Q9 (rfl:gX f203 []=_)
def Z1a:=Q9 (rfl:gX f204 []=_)
def Z25:=Q9 (rfl:gX f205 []=_)
def Z08:=Q9 (rfl:gX f206 []=_)
def Z1t:=Q9 (rfl:gX f207 []=_)
def Z0j:=Q9 (rfl:gX f208 []=_)
def Qvn:=Q9 (rfl:gX f209 []=_)
def Qza:=Q9 (rfl:gX f210 []=_)
def Quj:=Q9 (rfl:gX f211 []=_)
def Z2n:=Q9 (rfl:gX f212 []=_)
def Qzp:=Q9 (rfl:gX f213 []=_)
def Qvp:=Q9 (rfl:gX f214 []=_)
def Z3t:=Q9 (rfl:gX f215 []=_)
def Qxl:=Q9 (rfl:gX f216 []=_)
def Z49:=Q9 (rfl:gX f217 []=_)
def Qw6:=Q9 (rfl:gX f218 []=_)
def Z0y:=Q9 (rfl:gX f219 []=_)
def Z3w:=Q9 (rfl:gX f220 []=_)
def Qvt:=Q9 (rfl:gX f221 []=_)
def Qz3:=Q9 (rfl:gX f222 []=_)
def Qz2:=Q9 (rfl:gX f223 []=_)
def Qzv:=Q9 (rfl:gX f224 []=_)
def Z2l:=Q9 (rfl:gX f225 []=_)
def Z1o:CFunc:=Q9 (show gX f226 [false,false,false,false,false,false,true]=_ from rfl)
def Qzr:=Q9 (rfl:gX f227 []=_)
def Qz9:=Q9 (rfl:gX f228 []=_)
def Z00:=Q9 (rfl:gX f229 []=_)
def Z0q:=Q9 (rfl:gX f230 []=_)
def Qzd:=Q9 (rfl:gX f231 []=_)
def Qyd:=Q9 (rfl:gX f232 []=_)
def Qy3:=Q9 (rfl:gX f233 []=_)
def Z4o:=Q9 (rfl:gX f234 []=_)
def Qzi:=Q9 (rfl:gX f235 []=_)
def Qyz:=Q9 (rfl:gX f236 []=_)
def Qz4:=Q9 (rfl:gX f237 []=_)
def Qyu:=Q9 (rfl:gX f238 []=_)
def Qz5:=Q9 (rfl:gX f239 []=_)
def Z3r:CFunc:=Q9 (show gX f240 [false,false,true]=_ from rfl)
def Z1k:=Q9 (rfl:gX f241 []=_)
def Qwy:=Q9 (rfl:gX f242 []=_)
def Z0p:=Q9 (rfl:gX f243 []=_)
def Qxc:=Q9 (rfl:gX f245 []=_)
def Z4g:=Q9 (rfl:gX f246 []=_)
def Qxx:=Q9 (rfl:gX f247 []=_)
def Z3n:=Q9 (rfl:gX f248 []=_)
def Qzt:=Q9 (rfl:gX f249 []=_)
def Qxb:=Q9 (rfl:gX f250 []=_)
def Quz:=Q9 (rfl:gX f251 []=_)
def Qw1:=Q9 (rfl:gX f252 []=_)
def Qwr:=Q9 (rfl:gX f253 []=_)
def Qx8:=Q9 (rfl:gX f254 []=_)
def Qyo:=Q9 (rfl:gX f255 []=_)
def Z3y:=Q9 (rfl:gX f256 []=_)
def Qy4:=Q9 (rfl:gX f257 []=_)
def Z13:=Q9 (rfl:gX f258 []=_)
def Qy9:=Q9 (rfl:gX f259 []=_)
def Qvi:=Q9 (rfl:gX f260 []=_)
def Z36:=Q9 (rfl:gX f261 []=_)
def Qz6:=Q9 (rfl:gX f262 []=_)
def Qxk:=Q9 (rfl:gX f263 []=_)
def Quq:=Q9 (rfl:gX f264 []=_)
def Qzk:=Q9 (rfl:gX f265 []=_)
def Qzu:=Q9 (rfl:gX f266 []=_)
def Qww:=Q9 (rfl:gX f267 []=_)
def Qzj:=Q9 (rfl:gX f268 []=_)
def Qwq:=Q9 (rfl:gX f269 []=_)
def Z1j:=Q9 (rfl:gX f270 []=_)
def Qw7:=Q9 (rfl:gX f271 []=_)
def Qvu:=Q9 (rfl:gX f272 []=_)
def Qye:=Q9 (rfl:gX f273 []=_)
def Z2g:=Q9 (rfl:gX f274 []=_)
def Z1g:=Q9 (rfl:gX f275 []=_)
def Qwh:=Q9 (rfl:gX f276 []=_)
def Qx2:=Q9 (rfl:gX f277 []=_)
def Qv9:=Q9 (rfl:gX f278 []=_)
def Qul:=Q9 (rfl:gX f279 []=_)
def Z3m:=Q9 (rfl:gX f280 []=_)
def Z1c:=Q9 (rfl:gX f281 []=_)
def Qwv:=Q9 (rfl:gX f282 []=_)
def Z10:=Q9 (rfl:gX f284 []=_)
def Z21:=Q9 (rfl:gX f285 []=_)
def Qws:=Q9 (rfl:gX f286 []=_)
def Z39:=Q9 (rfl:gX f287 []=_)
def Qyw:=Q9 (rfl:gX f288 []=_)
def Qxo:=Q9 (rfl:gX f289 []=_)
def Z3g:=Q9 (rfl:gX f290 []=_)
def Qv1:=Q9 (rfl:gX f291 []=_)
def Z3o:=Q9 (rfl:gX f292 []=_)
def Z2v:=Q9 (rfl:gX f293 []=_)
def Qun:=Q9 (rfl:gX f294 []=_)
def Z2e:=Q9 (rfl:gX f295 []=_)
def Qzl:=Q9 (rfl:gX f296 []=_)
def Z2k:=Q9 (rfl:gX f297 []=_)
def Z0k:=Q9 (rfl:gX f298 []=_)
def Z0m:=Q9 (rfl:gX f299 []=_)
def Z4q:=Q9 (rfl:gX f300 []=_)
def Z4l:=Q9 (rfl:gX f301 []=_)
def Z09:=Q9 (rfl:gX f302 []=_)
def Z4e:=Q9 (rfl:gX f303 []=_)
def Z2z:=Q9 (rfl:gX f304 []=_)
def Qy2:=Q9 (rfl:gX f305 []=_)
def Qxe:=Q9 (rfl:gX f306 []=_)
def Qxu:=Q9 (rfl:gX f307 []=_)
def Z31:=Q9 (rfl:gX f308 []=_)
def Z47:=Q9 (rfl:gX f309 []=_)
def Qze:=Q9 (rfl:gX f310 []=_)
def Z43:=Q9 (rfl:gX f311 []=_)
def Qup:=Q9 (rfl:gX f312 []=_)
def Qx6:=Q9 (rfl:gX f313 []=_)
def Qwn:=Q9 (rfl:gX f314 []=_)
def Z1n:=Q9 (rfl:gX f315 []=_)
def Qz8:=Q9 (rfl:gX f316 []=_)
def Z0h:=Q9 (rfl:gX f317 []=_)
def Qxn:=Q9 (rfl:gX f318 []=_)
def Qvw:=Q9 (rfl:gX f319 []=_)
def Z0l:=Q9 (rfl:gX f320 []=_)
def Qwb:=Q9 (rfl:gX f321 []=_)
def Qyl:=Q9 (rfl:gX f322 []=_)
def Qzc:=Q9 (rfl:gX f323 []=_)
def Z4k:=Q9 (rfl:gX f324 []=_)
def Qzx:=Q9 (rfl:gX f325 []=_)
def Z4i:=Q9 (rfl:gX f326 []=_)
def Z3s:=Q9 (rfl:gX f327 []=_)
def Qve:=Q9 (rfl:gX f328 []=_)
def Qxr:=Q9 (rfl:gX f329 []=_)
def Z06:=Q9 (rfl:gX f330 []=_)
def Qwp:=Q9 (rfl:gX f331 []=_)
def Z02:=Q9 (rfl:gX f332 []=_)
def Qwx:=Q9 (rfl:gX f333 []=_)
def Z4j:=Q9 (rfl:gX f334 []=_)
def Z35:=Q9 (rfl:gX f335 []=_)
def Z0u:=Q9 (rfl:gX f336 []=_)
def Z3j:=Q9 (rfl:gX f337 []=_)
def Z4h:=Q9 (rfl:gX f338 []=_)
def Qzo:=Q9 (rfl:gX f339 []=_)
def Z3a:=Q9 (rfl:gX f340 []=_)
def Z0e:=Q9 (rfl:gX f341 []=_)
def Qy7:=Q9 (rfl:gX f342 []=_)
def Z2q:=Q9 (rfl:gX f343 []=_)
def Z1m:=Q9 (rfl:gX f344 []=_)
def Qyq:=Q9 (rfl:gX f345 []=_)
def Z0z:=Q9 (rfl:gX f346 []=_)
def Qwc:=Q9 (rfl:gX f347 []=_)
def Z0w:=Q9 (rfl:gX f348 []=_)
def Qzf:=Q9 (rfl:gX f349 []=_)
def Qyt:=Q9 (rfl:gX f350 []=_)
def Z22:=Q9 (rfl:gX f351 []=_)
def Z0d:=Q9 (rfl:gX f352 []=_)
def Z2o:=Q9 (rfl:gX f353 []=_)
def Z3h:=Q9 (rfl:gX f354 []=_)
def Z42:=Q9 (rfl:gX f355 []=_)
def Qwf:=Q9 (rfl:gX f356 []=_)
def Z2y:=Q9 (rfl:gX f357 []=_)
def Z19:=Q9 (rfl:gX f358 []=_)
def Z3f:=Q9 (rfl:gX f359 []=_)
def Z4f:=Q9 (rfl:gX f360 []=_)
def Qvr:=Q9 (rfl:gX f361 []=_)
def Qxj:=Q9 (rfl:gX f362 []=_)
def Z29:=Q9 (rfl:gX f363 []=_)
def Quk:=Q9 (rfl:gX f364 []=_)
def Qwt:=Q9 (rfl:gX f367 []=_)
def Z28:=Q9 (rfl:gX f368 []=_)
def Z3z:=Q9 (rfl:gX f369 []=_)
def Z11:=Q9 (rfl:gX f370 []=_)
def Z3x:=Q9 (rfl:gX f371 []=_)
def Z3e:=Q9 (rfl:gX f372 []=_)
def Z41:=Q9 (rfl:gX f373 []=_)
def Z4m:=Q9 (rfl:gX f374 []=_)
def Z4b:=Q9 (rfl:gX f391 []=_)
def Z18:=Q9 (rfl:gX f392 []=_)
def Qxw:=Q9 (rfl:gX f393 []=_)
def Z2c:=Q9 (rfl:gX f394 []=_)
def Z1v:=Q9 (rfl:gX f395 []=_)
def Qy1:=Q9 (rfl:gX f396 []=_)
def Qus:=Q9 (rfl:gX f397 []=_)
def Qyc:=Q9 (rfl:gX f398 []=_)
def Z1y:=Q9 (rfl:gX f399 []=_)
def Qwg:=Q9 (rfl:gX f400 []=_)
def Qyv:=Q9 (rfl:gX f401 []=_)
def Z0g:=Q9 (rfl:gX f402 []=_)
def Z4n:=Q9 (rfl:gX f403 []=_)
def Qvc:=Q9 (rfl:gX f404 []=_)
def Z16:=Q9 (rfl:gX f405 []=_)
def Qsm:List (Option CFunc) := [none,none,none,some c3,some c4,some c5,some c6,some c7,some c8,some c9,some c10,some c11,some c12,some c13,some c14,some c15,some c16,some c17,some c18,some c19,some c20,some c21,some c22,some c23,some c24,some c25,some c26,some c27,some c28,some c29,some c30,some c31,some c32,some c33,some c34,some c35,some c36,some c37,some c38,some c39,some c40,some c41,some c42,some c43,some c44,some c45,some c46,some c47,some c48,some c49,some c50,some c51,some c52,some c53,some c54,some c55,some c56,some c57,some c58,some c59,some c60,some c61,some c62,some c63,some c64,some c65,some c66,some c67,some c68,some c69,some c70,some c71,some c72,some c73,some c74,some c75,some c76,some c77,some c78,some c79,some c80,some c81,some c82,some c83,some c84,some c85,some c86,some c87,some c88,some c89,some c90,some c91,some c92,some c93,some c94,some c95,some c96,some c97,some c98,some c99,some Z2u,some Z30,some Z12,some Z48,some Qv7,some Z1d,some Z2j,some Z1f,some Qy0,some Z2b,some Qyh,some Qui,some Qxg,some Quy,some Z1l,some Qux,some Qvq,some Qwi,some Z1h,some Z24,some Qz1,some Qv3,some Qx1,some Qxi,some Qyy,some Qut,some Qx7,some Z0s,some Qxs,some Qvg,some Z15,some Qzs,some Z0o,some Qwu,some Z1p,some Z27,some Qwa,some Qw0,some Qw3,some Z0r,some Qyk,some Z4d,some Qxd,some Qzw,some Qzq,some Qur,some Z0v,some Quw,some Z34,some Qx5,some Qya,some Qyj,some Qzh,some Z2x,some Qva,some Qxy,some Qv5,some Z1i,some Qzb,some Z1r,some Qv0,some Z1u,some Qwk,some Qvh,some Qx0,some Qy5,some Qvm,some Qvx,some Qwz,some Z2m,some Qyb,some Z2a,some Z0t,some Qx3,some Z40,some Z0b,some Quu,some Qy6,none,some Qx9,some Qvb,some Z3q,some Z2t,some Qwm,some Qwj,some Qvz,some Z3p,some Z01,some Z17,some Z0c,some Qw8,some Qv6,some Z0a,some Z0n,some Z46,some Z1x,some Z4p,some Z05,some Z32,some Qwo,some Z1b,some Z1z,some Qxz,some Z3b,some Z1a,some Z25,some Z08,some Z1t,some Z0j,some Qvn,some Qza,some Quj,some Z2n,some Qzp,some Qvp,some Z3t,some Qxl,some Z49,some Qw6,some Z0y,some Z3w,some Qvt,some Qz3,some Qz2,some Qzv,some Z2l,some Z1o,some Qzr,some Qz9,some Z00,some Z0q,some Qzd,some Qyd,some Qy3,some Z4o,some Qzi,some Qyz,some Qz4,some Qyu,some Qz5,some Z3r,some Z1k,some Qwy,some Z0p,none,some Qxc,some Z4g,some Qxx,some Z3n,some Qzt,some Qxb,some Quz,some Qw1,some Qwr,some Qx8,some Qyo,some Z3y,some Qy4,some Z13,some Qy9,some Qvi,some Z36,some Qz6,some Qxk,some Quq,some Qzk,some Qzu,some Qww,some Qzj,some Qwq,some Z1j,some Qw7,some Qvu,some Qye,some Z2g,some Z1g,some Qwh,some Qx2,some Qv9,some Qul,some Z3m,some Z1c,some Qwv,none,some Z10,some Z21,some Qws,some Z39,some Qyw,some Qxo,some Z3g,some Qv1,some Z3o,some Z2v,some Qun,some Z2e,some Qzl,some Z2k,some Z0k,some Z0m,some Z4q,some Z4l,some Z09,some Z4e,some Z2z,some Qy2,some Qxe,some Qxu,some Z31,some Z47,some Qze,some Z43,some Qup,some Qx6,some Qwn,some Z1n,some Qz8,some Z0h,some Qxn,some Qvw,some Z0l,some Qwb,some Qyl,some Qzc,some Z4k,some Qzx,some Z4i,some Z3s,some Qve,some Qxr,some Z06,some Qwp,some Z02,some Qwx,some Z4j,some Z35,some Z0u,some Z3j,some Z4h,some Qzo,some Z3a,some Z0e,some Qy7,some Z2q,some Z1m,some Qyq,some Z0z,some Qwc,some Z0w,some Qzf,some Qyt,some Z22,some Z0d,some Z2o,some Z3h,some Z42,some Qwf,some Z2y,some Z19,some Z3f,some Z4f,some Qvr,some Qxj,some Z29,some Quk,none,none,some Qwt,some Z28,some Z3z,some Z11,some Z3x,some Z3e,some Z41,some Z4m,none,none,none,none,none,none,none,none,none,none,none,none,none,none,none,none,some Z4b,some Z18,some Qxw,some Z2c,some Z1v,some Qy1,some Qus,some Qyc,some Z1y,some Qwg,some Qyv,some Z0g,some Z4n,some Qvc,some Z16]
end
end Go.Av
