/- Part of FromsnBack: the law returns true; no condition. -/
import Derived.Test.YthbmcbacbhfnmaaGreatDoorAvGen
import Derived.Test.YthbmcbacbhfnmaaGreatDoorProg
set_option linter.all false
namespace Go.Av
open Go.Proofs.Tryz
noncomputable section
open Go.Proofs
set_option maxRecDepth 100000
abbrev w6:PV := .int .i64 0
abbrev wb:PV := .bool false
abbrev w1:PV := .int .u8 0
abbrev w8:PV := .int .u64 0
abbrev ws:PV := .str []
abbrev wn:PV := .nilSlice
def tyT:List TI := [⟨1,.func,1,8,[.nilFunc]⟩,
⟨2,.int .i64,1,8,[w6]⟩,
⟨3,.int .i64,1,8,[w6]⟩,
⟨4,.bool,1,1,[wb]⟩,
⟨5,.int .u8,1,1,[w1]⟩,
⟨9,.str,1,16,[ws]⟩,
⟨12,.int .u64,1,8,[w8]⟩,
⟨21,.int .i32,1,4,[.int .i32 (0)]⟩,
⟨22,.slice 74,1,24,[wn]⟩,
⟨23,.slice 77,1,24,[wn]⟩,
⟨25,.struct [(0,4),(1,3),(2,4),(3,4),(4,4),(5,3)],6,32,[wb,w6,wb,wb,wb,w6]⟩,
⟨27,.struct [(0,3),(1,25),(7,3),(8,3),(9,3),(10,4),(11,3),(12,3),(13,3),(14,9),(15,9)],16,128,[w6,wb,w6,wb,wb,wb,w6,w6,w6,w6,wb,w6,w6,w6,ws,ws]⟩,
⟨29,.struct [(0,23),(1,27)],17,152,[wn,w6,wb,w6,wb,wb,wb,w6,w6,w6,w6,wb,w6,w6,w6,ws,ws]⟩,
⟨30,.slice 130,1,24,[wn]⟩,
⟨32,.struct [(0,9),(1,9),(2,3),(3,4),(4,30)],5,72,[ws,ws,w6,wb,wn]⟩,
⟨33,.slice 3,1,24,[wn]⟩,
⟨34,.slice 132,1,24,[wn]⟩,
⟨36,.struct [(0,3),(1,4),(2,4),(3,3),(4,3),(5,9),(6,9),(7,4),(8,3),(9,9),(10,4),(11,9),(12,4),(13,9),(14,4),(15,32),(20,4),(21,3),(22,33),(23,34),(24,30)],25,312,[w6,wb,wb,w6,w6,ws,ws,wb,w6,ws,wb,ws,wb,ws,wb,ws,ws,w6,wb,wn,wb,w6,wn,wn,wn]⟩,
⟨37,.slice 136,1,24,[wn]⟩,
⟨39,.struct [(0,3),(1,3),(2,9),(3,37)],4,56,[w6,w6,ws,wn]⟩,
⟨41,.struct [(0,3),(1,3),(2,9),(3,9),(4,3),(5,4),(6,4),(7,3),(8,30),(9,3),(10,23),(11,3),(12,36),(37,27),(53,39)],57,632,[w6,w6,ws,ws,w6,wb,wb,w6,wn,w6,wn,w6,w6,wb,wb,w6,w6,ws,ws,wb,w6,ws,wb,ws,wb,ws,wb,ws,ws,w6,wb,wn,wb,w6,wn,wn,wn,w6,wb,w6,wb,wb,wb,w6,w6,w6,w6,wb,w6,w6,w6,ws,ws,w6,w6,ws,wn]⟩,
⟨42,.func,1,8,[.nilFunc]⟩,
⟨46,.ptr,1,8,[.nilPtr]⟩,
⟨47,.ptr,1,8,[.nilPtr]⟩,
⟨50,.int .i64,1,8,[w6]⟩,
⟨58,.struct [(0,3),(1,3)],2,16,[w6,w6]⟩,
⟨64,.struct [(0,3),(1,9),(2,4)],3,32,[w6,ws,wb]⟩,
⟨65,.slice 64,1,24,[wn]⟩,
⟨68,.slice 9,1,24,[wn]⟩,
⟨74,.struct [(0,9),(1,9),(2,3)],3,40,[ws,ws,w6]⟩,
⟨77,.struct [(0,3),(1,9)],2,24,[w6,ws]⟩,
⟨95,.func,1,8,[.nilFunc]⟩,
⟨102,.ptr,1,8,[.nilPtr]⟩,
⟨106,.func,1,8,[.nilFunc]⟩,
⟨108,.map 3 64,1,8,[.nilMap]⟩,
⟨109,.map 9 3,1,8,[.nilMap]⟩,
⟨110,.slice 3,1,24,[wn]⟩,
⟨112,.struct [(0,109),(1,108),(2,110),(3,3)],4,48,[.nilMap,.nilMap,wn,w6]⟩,
⟨115,.func,1,8,[.nilFunc]⟩,
⟨116,.slice 120,1,24,[wn]⟩,
⟨118,.struct [(0,116)],1,24,[wn]⟩,
⟨120,.struct [(0,9),(1,65)],2,40,[ws,wn]⟩,
⟨123,.func,1,8,[.nilFunc]⟩,
⟨125,.map 9 102,1,8,[.nilMap]⟩,
⟨127,.struct [(0,125)],1,8,[.nilMap]⟩,
⟨128,.int .u32,1,4,[.int .u32 (0)]⟩,
⟨130,.struct [(0,3),(1,128),(2,9),(3,9)],4,48,[w6,.int .u32 (0),ws,ws]⟩,
⟨132,.struct [(0,9),(1,3),(2,4),(3,4),(4,3)],5,40,[ws,w6,wb,wb,w6]⟩,
⟨134,.int .u64,1,8,[w8]⟩,
⟨136,.struct [(0,3),(1,134),(2,9),(3,37)],4,56,[w6,w8,ws,wn]⟩,
⟨143,.func,1,8,[.nilFunc]⟩,
⟨147,.struct [(0,46),(1,9)],2,24,[.nilPtr,ws]⟩,
⟨149,.struct [],0,0,[]⟩,
⟨151,.struct [(0,147)],2,24,[.nilPtr,ws]⟩,
⟨152,.struct [(0,147)],2,24,[.nilPtr,ws]⟩,
⟨161,.slice 5,1,24,[wn]⟩,
⟨170,.int .u64,1,8,[w8]⟩,
⟨175,.ptr,1,8,[.nilPtr]⟩,
⟨180,.struct [(0,42),(1,50)],2,16,[.nilFunc,w6]⟩,
⟨182,.slice 180,1,24,[wn]⟩,
⟨189,.func,1,8,[.nilFunc]⟩,
⟨199,.int .i64,1,8,[w6]⟩,
⟨211,.iface,1,16,[.nilIface]⟩,
⟨218,.struct [(0,9)],1,16,[ws]⟩,
⟨220,.map 3 218,1,8,[.nilMap]⟩,
⟨225,.func,1,8,[.nilFunc]⟩,
⟨227,.struct [(0,3),(1,33),(2,128),(3,128)],4,40,[w6,wn,.int .u32 (0),.int .u32 (0)]⟩,
⟨236,.int .u64,1,8,[w8]⟩,
⟨240,.ptr,1,8,[.nilPtr]⟩,
⟨249,.array 256 4,256,256,List.replicate 256 wb⟩,
⟨255,.ptr,1,8,[.nilPtr]⟩,
⟨257,.struct [(0,255),(1,3),(2,27),(18,161),(19,4)],20,176,[.nilPtr,w6,w6,wb,w6,wb,wb,wb,w6,w6,w6,w6,wb,w6,w6,w6,ws,ws,wn,wb]⟩,
⟨259,.struct [(0,3),(1,3),(2,3),(3,3),(4,3),(5,4),(6,4),(7,4),(8,4),(9,4),(10,4),(11,4),(12,9),(13,9),(14,9),(15,9),(16,9)],17,128,[w6,w6,w6,w6,w6,wb,wb,wb,wb,wb,wb,wb,ws,ws,ws,ws,ws]⟩,
⟨262,.map 3 267,1,8,[.nilMap]⟩,
⟨265,.array 64 3,64,512,List.replicate 64 w6⟩,
⟨267,.struct [(0,3),(1,3),(2,128),(3,128)],4,24,[w6,w6,.int .u32 (0),.int .u32 (0)]⟩,
⟨271,.func,1,8,[.nilFunc]⟩,
⟨272,.func,1,8,[.nilFunc]⟩,
⟨274,.struct [(0,271),(1,272)],2,16,[.nilFunc,.nilFunc]⟩,
⟨276,.map 3 274,1,8,[.nilMap]⟩,
⟨279,.struct [(0,3),(1,36)],26,320,[w6,w6,wb,wb,w6,w6,ws,ws,wb,w6,ws,wb,ws,wb,ws,wb,ws,ws,w6,wb,wn,wb,w6,wn,wn,wn]⟩,
⟨281,.slice 283,1,24,[wn]⟩,
⟨283,.struct [(0,136),(4,281),(5,3),(6,3)],7,96,[w6,w8,ws,wn,wn,w6,w6]⟩,
⟨299,.ptr,1,8,[.nilPtr]⟩,
⟨300,.slice 1,1,24,[wn]⟩,
⟨304,.func,1,8,[.nilFunc]⟩,
⟨306,.func,1,8,[.nilFunc]⟩,
⟨312,.struct [(0,3),(1,3),(2,3)],3,24,[w6,w6,w6]⟩,
⟨314,.struct [(0,3),(1,312),(4,9)],5,48,[w6,w6,w6,w6,ws]⟩,
⟨318,.func,1,8,[.nilFunc]⟩,
⟨319,.map 3 318,1,8,[.nilMap]⟩,
⟨323,.struct [(0,3),(1,3),(2,3),(3,4),(4,4)],5,32,[w6,w6,w6,wb,wb]⟩,
⟨346,.slice 323,1,24,[wn]⟩,
⟨349,.func,1,8,[.nilFunc]⟩,
⟨359,.ptr,1,8,[.nilPtr]⟩,
⟨360,.func,1,8,[.nilFunc]⟩,
⟨368,.struct [(0,255),(1,3)],2,16,[.nilPtr,w6]⟩,
⟨373,.ptr,1,8,[.nilPtr]⟩,
⟨388,.array 256 5,256,256,List.replicate 256 w1⟩,
⟨390,.struct [(0,5),(1,5)],2,2,[w1,w1]⟩,
⟨391,.array 16 390,32,32,List.replicate 32 w1⟩,
⟨393,.func,1,8,[.nilFunc]⟩,
⟨400,.struct [(0,9),(1,3),(2,50)],3,32,[ws,w6,w6]⟩,
⟨403,.struct [(0,4),(1,3)],2,16,[wb,w6]⟩,
⟨404,.slice 403,1,24,[wn]⟩,
⟨411,.ptr,1,8,[.nilPtr]⟩,
⟨412,.struct [],0,0,[]⟩,
⟨413,.map 3 143,1,8,[.nilMap]⟩,
⟨416,.slice 360,1,24,[wn]⟩,
⟨421,.ptr,1,8,[.nilPtr]⟩,
⟨423,.struct [(0,421),(1,161)],2,32,[.nilPtr,wn]⟩,
⟨430,.array 4 134,4,32,[w8,w8,w8,w8]⟩,
⟨432,.ptr,1,8,[.nilPtr]⟩,
⟨437,.struct [(0,3),(1,3),(2,4),(3,4)],4,24,[w6,w6,wb,wb]⟩,
⟨438,.map 3 442,1,8,[.nilMap]⟩,
⟨441,.struct [(0,255),(1,130)],5,56,[.nilPtr,w6,.int .u32 (0),ws,ws]⟩,
⟨442,.func,1,8,[.nilFunc]⟩,
⟨443,.ptr,1,8,[.nilPtr]⟩,
⟨451,.ptr,1,8,[.nilPtr]⟩,
⟨458,.other,1,8,[.nilPtr]⟩]
abbrev gX:=Qyg tyT [(396,1),(516,2)] [] []
def c3:=Qc (rfl:gX f3 []=_)
def c4:=Qc (rfl:gX f4 []=_)
def c5:=Qc (rfl:gX f5 []=_)
def c6:=Qc (rfl:gX f6 []=_)
def c7:=Qc (rfl:gX f7 []=_)
def c8:=Qc (rfl:gX f8 []=_)
def c9:CFunc:=Qc (show Qyg tyT [(396,1),(516,2)] [(43,[(149,574),(151,576),(152,582)])] [] f9 []=_ from rfl)
def c10:CFunc:=Qc (show Qyg tyT [(396,1),(516,2)] [(42,[(149,573),(151,575),(152,581)])] [] f10 []=_ from rfl)
def c11:=Qc (rfl:gX f11 []=_)
def c12:=Qc (rfl:gX f12 []=_)
def c13:=Qc (rfl:gX f13 []=_)
def c14:=Qc (rfl:gX f14 []=_)
def c15:=Qc (rfl:gX f15 []=_)
def c16:=Qc (rfl:gX f16 []=_)
def c17:=Qc (rfl:gX f17 []=_)
def c18:=Qc (rfl:gX f18 []=_)
def c19:=Qc (rfl:gX f19 []=_)
def c20:=Qc (rfl:gX f20 []=_)
def c21:=Qc (rfl:gX f21 []=_)
def c22:=Qc (rfl:gX f22 []=_)
def c23:=Qc (rfl:gX f23 []=_)
def c24:=Qc (rfl:gX f24 []=_)
def c25:=Qc (rfl:gX f25 []=_)
def c26:=Qc (rfl:gX f26 []=_)
def c27:=Qc (rfl:gX f27 []=_)
def c28:=Qc (rfl:gX f28 []=_)
def c29:=Qc (rfl:gX f29 []=_)
def c30:=Qc (rfl:gX f30 []=_)
def c31:=Qc (rfl:gX f31 []=_)
def c32:=Qc (rfl:gX f32 []=_)
def c33:=Qc (rfl:gX f33 []=_)
def c34:=Qc (rfl:gX f34 []=_)
def c35:=Qc (rfl:gX f35 []=_)
def c36:=Qc (rfl:gX f36 []=_)
def c37:=Qc (rfl:gX f37 []=_)
def c38:=Qc (rfl:gX f38 []=_)
def c39:=Qc (rfl:gX f39 []=_)
def c40:CFunc:=Qc (show gX f40 [false,true,true,false,false,false,false,false,true,false,true,false,true,false,true,true,true,false,true]=_ from rfl)
def c41:=Qc (rfl:gX f41 []=_)
def c42:=Qc (rfl:gX f42 []=_)
def c43:=Qc (rfl:gX f43 []=_)
def c44:=Qc (rfl:gX f44 []=_)
def c45:=Qc (rfl:gX f45 []=_)
def c46:=Qc (rfl:gX f46 []=_)
def c47:=Qc (rfl:gX f47 []=_)
def c48:=Qc (rfl:gX f48 []=_)
def c49:=Qc (rfl:gX f49 []=_)
def c50:=Qc (rfl:gX f50 []=_)
def c51:=Qc (rfl:gX f51 []=_)
def c52:=Qc (rfl:gX f52 []=_)
def c53:=Qc (rfl:gX f53 []=_)
def c54:=Qc (rfl:gX f54 []=_)
def c55:=Qc (rfl:gX f55 []=_)
def c56:=Qc (rfl:gX f56 []=_)
def c57:=Qc (rfl:gX f57 []=_)
def c58:=Qc (rfl:gX f58 []=_)
def c59:=Qc (rfl:gX f59 []=_)
def c60:=Qc (rfl:gX f60 []=_)
def c61:=Qc (rfl:gX f61 []=_)
def c62:=Qc (rfl:gX f62 []=_)
def c63:=Qc (rfl:gX f63 []=_)
def c64:=Qc (rfl:gX f64 []=_)
def c65:=Qc (rfl:gX f65 []=_)
def c66:=Qc (rfl:gX f66 []=_)
def c67:=Qc (rfl:gX f67 []=_)
def c68:CFunc:=Qc (show gX f68 [false,false,true]=_ from rfl)
def c69:=Qc (rfl:gX f69 []=_)
def c70:=Qc (rfl:gX f70 []=_)
def c71:=Qc (rfl:gX f71 []=_)
def c72:=Qc (rfl:gX f72 []=_)
def c73:=Qc (rfl:gX f73 []=_)
def c74:=Qc (rfl:gX f74 []=_)
def c75:=Qc (rfl:gX f75 []=_)
def c76:=Qc (rfl:gX f76 []=_)
def c77:=Qc (rfl:gX f77 []=_)
def c78:=Qc (rfl:gX f78 []=_)
def c79:CFunc:=Qc (show gX f79 [false,false,true,true,true,true]=_ from rfl)
def c80:=Qc (rfl:gX f80 []=_)
def c81:=Qc (rfl:gX f81 []=_)
def c82:=Qc (rfl:gX f82 []=_)
def c83:=Qc (rfl:gX f83 []=_)
def c84:=Qc (rfl:gX f84 []=_)
def c85:=Qc (rfl:gX f85 []=_)
def c86:=Qc (rfl:gX f86 []=_)
def c87:=Qc (rfl:gX f87 []=_)
def c88:=Qc (rfl:gX f88 []=_)
def c89:=Qc (rfl:gX f89 []=_)
def c90:=Qc (rfl:gX f90 []=_)
def c91:=Qc (rfl:gX f91 []=_)
def c92:=Qc (rfl:gX f92 []=_)
def c93:=Qc (rfl:gX f93 []=_)
def c94:=Qc (rfl:gX f94 []=_)
def c95:=Qc (rfl:gX f95 []=_)
def c96:=Qc (rfl:gX f96 []=_)
def c97:=Qc (rfl:gX f97 []=_)
def c98:=Qc (rfl:gX f98 []=_)
def c99:CFunc:=Qc (show Qyg tyT [(396,1),(516,2)] [(4,[(0,0),(175,569)]),(7,[(0,0),(175,571)]),(13,[(175,583)])] [] f99 []=_ from rfl)
def Ziy:=Qc (rfl:gX f100 []=_)
def Zec:=Qc (rfl:gX f101 []=_)
def Qpu:=Qc (rfl:gX f102 []=_)
def Zqb:=Qc (rfl:gX f103 []=_)
def Zhi:=Qc (rfl:gX f104 []=_)
def Zja:=Qc (rfl:gX f105 []=_)
def Zdv:=Qc (rfl:gX f106 []=_)
def Zme:=Qc (rfl:gX f107 []=_)
def Zle:=Qc (rfl:gX f108 []=_)
def Zhl:=Qc (rfl:gX f109 []=_)
def Zty:=Qc (rfl:gX f110 []=_)
def Zst:=Qc (rfl:gX f111 []=_)
def Zes:=Qc (rfl:gX f112 []=_)
def Zga:=Qc (rfl:gX f113 []=_)
def Zto:=Qc (rfl:gX f114 []=_)
def Zrm:=Qc (rfl:gX f115 []=_)
def Zj2:=Qc (rfl:gX f116 []=_)
def Zpa:=Qc (rfl:gX f117 []=_)
def Zs7:=Qc (rfl:gX f118 []=_)
def Zrj:=Qc (rfl:gX f119 []=_)
def Zgr:=Qc (rfl:gX f120 []=_)
def Zm0:=Qc (rfl:gX f121 []=_)
def Zsa:=Qc (rfl:gX f122 []=_)
def Zqh:=Qc (rfl:gX f123 []=_)
def Zu7:=Qc (rfl:gX f124 []=_)
def Zsh:=Qc (rfl:gX f125 []=_)
def Zfx:=Qc (rfl:gX f126 []=_)
def Zqm:=Qc (rfl:gX f127 []=_)
def Zpc:=Qc (rfl:gX f128 []=_)
def Zqd:=Qc (rfl:gX f129 []=_)
def Zmr:=Qc (rfl:gX f130 []=_)
def Znz:CFunc:=Qc (show gX f131 [false,false,false,false,false,false,true,true,false,true,true,false,true,true,true,false,true,true,false,false,true]=_ from rfl)
def Zrf:=Qc (rfl:gX f132 []=_)
def Zmf:=Qc (rfl:gX f133 []=_)
def Zun:=Qc (rfl:gX f134 []=_)
def Zeu:=Qc (rfl:gX f135 []=_)
def Zue:CFunc:=Qc (show gX f136 [false,false,true,true,true,true]=_ from rfl)
def Zjv:=Qc (rfl:gX f137 []=_)
def Zgj:=Qc (rfl:gX f138 []=_)
def Zed:=Qc (rfl:gX f139 []=_)
def Zij:=Qc (rfl:gX f140 []=_)
def Zmv:=Qc (rfl:gX f141 []=_)
def Zrg:=Qc (rfl:gX f142 []=_)
def Zre:=Qc (rfl:gX f143 []=_)
def Zkz:=Qc (rfl:gX f144 []=_)
def Zgb:=Qc (rfl:gX f145 []=_)
def Zjk:=Qc (rfl:gX f146 []=_)
def Zgd:=Qc (rfl:gX f147 []=_)
def Zqv:=Qc (rfl:gX f148 []=_)
def Znb:=Qc (rfl:gX f149 []=_)
def Zr1:=Qc (rfl:gX f150 []=_)
def Zdi:=Qc (rfl:gX f151 []=_)
def Zlt:=Qc (rfl:gX f152 []=_)
def Zma:=Qc (rfl:gX f153 []=_)
def Zub:=Qc (rfl:gX f154 []=_)
def Znk:=Qc (rfl:gX f155 []=_)
def Zlu:=Qc (rfl:gX f156 []=_)
def Znc:=Qc (rfl:gX f157 []=_)
def Zeg:=Qc (rfl:gX f158 []=_)
def Zgc:=Qc (rfl:gX f159 []=_)
def Zlc:=Qc (rfl:gX f160 []=_)
def Zi8:CFunc:=Qc (show Qyg tyT [(396,1),(516,2)] [(29,[(0,0),(175,570)]),(35,[(0,0),(175,570)]),(40,[(0,0),(175,571)])] [] f161 []=_ from rfl)
def Zj3:=Qc (rfl:gX f162 []=_)
def Zih:=Qc (rfl:gX f163 []=_)
def Zn6:=Qc (rfl:gX f164 []=_)
def Zku:=Qc (rfl:gX f165 []=_)
def Zmw:=Qc (rfl:gX f166 []=_)
def Zg6:=Qc (rfl:gX f167 []=_)
def Zlq:=Qc (rfl:gX f168 []=_)
def Ztm:=Qc (rfl:gX f169 []=_)
def Zo4:=Qc (rfl:gX f170 []=_)
def Zdj:=Qc (rfl:gX f171 []=_)
def Zsr:=Qc (rfl:gX f172 []=_)
def Zl7:=Qc (rfl:gX f173 []=_)
def Zmk:=Qc (rfl:gX f174 []=_)
def Znv:=Qc (rfl:gX f175 []=_)
def Zug:=Qc (rfl:gX f176 []=_)
def Zdl:CFunc:=Qc (show gX f177 [false,false,true,true,true]=_ from rfl)
def Zq1:=Qc (rfl:gX f178 []=_)
def Zex:=Qc (rfl:gX f179 []=_)
def Znw:=Qc (rfl:gX f180 []=_)
def Zf5:=Qc (rfl:gX f181 []=_)
def Zjh:=Qc (rfl:gX f182 []=_)
def Zjm:=Qc (rfl:gX f183 []=_)
def Zee:=Qc (rfl:gX f184 []=_)
def Zlp:=Qc (rfl:gX f185 []=_)
def Zm4:=Qc (rfl:gX f186 []=_)
def Zif:=Qc (rfl:gX f187 []=_)
def Zgz:=Qc (rfl:gX f188 []=_)
def Zmd:=Qc (rfl:gX f189 []=_)
def Zry:=Qc (rfl:gX f190 []=_)
def Zez:=Qc (rfl:gX f191 []=_)
def Zl6:=Qc (rfl:gX f192 []=_)
def Zne:=Qc (rfl:gX f193 []=_)
def Zu2:=Qc (rfl:gX f194 []=_)
def Zqq:=Qc (rfl:gX f195 []=_)
def Zo0:=Qc (rfl:gX f196 []=_)
def Zmj:=Qc (rfl:gX f197 []=_)
def Zu4:=Qc (rfl:gX f198 []=_)
def Zfw:=Qc (rfl:gX f199 []=_)
def Zhh:=Qc (rfl:gX f200 []=_)
def Zt5:=Qc (rfl:gX f201 []=_)
def Zhk:=Qc (rfl:gX f202 []=_)
def Zgw:=Qc (rfl:gX f203 []=_)
def Zel:=Qc (rfl:gX f204 []=_)
def Zq8:=Qc (rfl:gX f205 []=_)
def Zjx:=Qc (rfl:gX f206 []=_)
def Zdg:=Qc (rfl:gX f207 []=_)
def Zq5:=Qc (rfl:gX f208 []=_)
def Zhw:=Qc (rfl:gX f209 []=_)
def Zr3:=Qc (rfl:gX f210 []=_)
def Zk6:CFunc:=Qc (show gX f211 [false,true]=_ from rfl)
def Zow:=Qc (rfl:gX f212 []=_)
def Zrq:=Qc (rfl:gX f213 []=_)
def Zng:=Qc (rfl:gX f214 []=_)
def Zra:=Qc (rfl:gX f215 []=_)
def Zp5:=Qc (rfl:gX f216 []=_)
def Zp7:CFunc:=Qc (show gX f217 [false,false,false,false,false,true,true,false,false,true,false,true,false,true,false,true,false,true,false,true]=_ from rfl)
def Zf6:=Qc (rfl:gX f218 []=_)
def Zml:=Qc (rfl:gX f219 []=_)
def Ztu:=Qc (rfl:gX f220 []=_)
def Znh:=Qc (rfl:gX f221 []=_)
def Zk0:=Qc (rfl:gX f222 []=_)
def Zeq:=Qc (rfl:gX f223 []=_)
def Zn9:=Qc (rfl:gX f224 []=_)
def Zpw:=Qc (rfl:gX f225 []=_)
def Zem:=Qc (rfl:gX f226 []=_)
def Zl4:=Qc (rfl:gX f227 []=_)
def Zjg:=Qc (rfl:gX f228 []=_)
def Zro:=Qc (rfl:gX f229 []=_)
def Zn3:=Qc (rfl:gX f230 []=_)
def Zop:=Qc (rfl:gX f231 []=_)
def Zdq:=Qc (rfl:gX f232 []=_)
def Ze5:=Qc (rfl:gX f233 []=_)
def Zha:=Qc (rfl:gX f234 []=_)
def Zp6:=Qc (rfl:gX f235 []=_)
def Zi1:=Qc (rfl:gX f236 []=_)
def Zrz:=Qc (rfl:gX f237 []=_)
def Zmm:=Qc (rfl:gX f238 []=_)
def Zje:=Qc (rfl:gX f239 []=_)
def Zts:=Qc (rfl:gX f240 []=_)
def Zf2:=Qc (rfl:gX f241 []=_)
def Zta:=Qc (rfl:gX f242 []=_)
def Ze4:=Qc (rfl:gX f243 []=_)
def Zfg:=Qc (rfl:gX f244 []=_)
def Zo5:=Qc (rfl:gX f245 []=_)
def Zdc:=Qc (rfl:gX f246 []=_)
def Zna:=Qc (rfl:gX f247 []=_)
def Zuf:=Qc (rfl:gX f248 []=_)
def Ziu:=Qc (rfl:gX f249 []=_)
def Zp2:=Qc (rfl:gX f250 []=_)
def Zs8:=Qc (rfl:gX f251 []=_)
def Zog:=Qc (rfl:gX f252 []=_)
def Zji:=Qc (rfl:gX f253 []=_)
def Zin:=Qc (rfl:gX f254 []=_)
def Zo2:=Qc (rfl:gX f255 []=_)
def Znq:=Qc (rfl:gX f256 []=_)
def Zn7:=Qc (rfl:gX f257 []=_)
def Zqz:=Qc (rfl:gX f258 []=_)
def Ze0:=Qc (rfl:gX f259 []=_)
def Zj1:=Qc (rfl:gX f260 []=_)
def Zld:=Qc (rfl:gX f261 []=_)
def Zfa:=Qc (rfl:gX f262 []=_)
def Zs9:=Qc (rfl:gX f263 []=_)
def Zmq:=Qc (rfl:gX f264 []=_)
def Zh6:=Qc (rfl:gX f265 []=_)
def Zhq:=Qc (rfl:gX f266 []=_)
def Zu0:=Qc (rfl:gX f267 []=_)
def Zqs:=Qc (rfl:gX f268 []=_)
def Zkv:=Qc (rfl:gX f269 []=_)
def Zkt:=Qc (rfl:gX f270 []=_)
def Zur:=Qc (rfl:gX f271 []=_)
def Zui:=Qc (rfl:gX f272 []=_)
def Zt3:=Qc (rfl:gX f273 []=_)
def Znf:=Qc (rfl:gX f274 []=_)
def Zeb:=Qc (rfl:gX f276 []=_)
def Zg1:=Qc (rfl:gX f277 []=_)
def Zsi:=Qc (rfl:gX f278 []=_)
def Zni:=Qc (rfl:gX f279 []=_)
def Zrc:=Qc (rfl:gX f280 []=_)
def Zhe:=Qc (rfl:gX f281 []=_)
def Zm6:=Qc (rfl:gX f282 []=_)
def Ze8:=Qc (rfl:gX f283 []=_)
def Zqn:=Qc (rfl:gX f284 []=_)
def Zox:=Qc (rfl:gX f285 []=_)
def Zol:=Qc (rfl:gX f286 []=_)
def Zjw:=Qc (rfl:gX f287 []=_)
def Zt8:=Qc (rfl:gX f288 []=_)
def Zsm:=Qc (rfl:gX f289 []=_)
def Zri:=Qc (rfl:gX f290 []=_)
def Zkn:=Qc (rfl:gX f291 []=_)
def Zof:=Qc (rfl:gX f292 []=_)
def Zfk:=Qc (rfl:gX f293 []=_)
def Zjn:=Qc (rfl:gX f294 []=_)
def Zo8:=Qc (rfl:gX f295 []=_)
def Zk9:=Qc (rfl:gX f296 []=_)
def Zlg:=Qc (rfl:gX f297 []=_)
def Zo3:=Qc (rfl:gX f298 []=_)
def Zki:=Qc (rfl:gX f299 []=_)
def Zly:=Qc (rfl:gX f300 []=_)
def Ztf:=Qc (rfl:gX f301 []=_)
def Zdd:=Qc (rfl:gX f302 []=_)
def Zlj:=Qc (rfl:gX f303 []=_)
def Zjj:=Qc (rfl:gX f304 []=_)
def Ztz:=Qc (rfl:gX f305 []=_)
def Zkw:=Qc (rfl:gX f306 []=_)
def Zn4:=Qc (rfl:gX f307 []=_)
def Zhy:=Qc (rfl:gX f308 []=_)
def Zh0:=Qc (rfl:gX f309 []=_)
def Zfb:=Qc (rfl:gX f310 []=_)
def Zk7:=Qc (rfl:gX f311 []=_)
def Zik:=Qc (rfl:gX f312 []=_)
def Znd:=Qc (rfl:gX f313 []=_)
def Zss:CFunc:=Qc (show gX f314 [false,true,true,false,true,true,false,false,false,true,true,false,false,true]=_ from rfl)
def Zrb:=Qc (rfl:gX f315 []=_)
def Zpu:=Qc (rfl:gX f316 []=_)
def Zjr:=Qc (rfl:gX f317 []=_)
def Zud:=Qc (rfl:gX f318 []=_)
def Zoo:=Qc (rfl:gX f319 []=_)
def Zuh:=Qc (rfl:gX f320 []=_)
def Zps:=Qc (rfl:gX f321 []=_)
def Zt9:=Qc (rfl:gX f322 []=_)
def Zsg:=Qc (rfl:gX f323 []=_)
def Zea:=Qc (rfl:gX f324 []=_)
def Zde:=Qc (rfl:gX f325 []=_)
def Zdr:=Qc (rfl:gX f326 []=_)
def Zqc:=Qc (rfl:gX f327 []=_)
def Zoy:=Qc (rfl:gX f328 []=_)
def Zj6:=Qc (rfl:gX f329 []=_)
def Zky:=Qc (rfl:gX f330 []=_)
def Zp1:=Qc (rfl:gX f331 []=_)
def Zkc:=Qc (rfl:gX f332 []=_)
def Zsk:=Qc (rfl:gX f333 []=_)
def Zgg:=Qc (rfl:gX f334 []=_)
def Zi0:=Qc (rfl:gX f335 []=_)
def Ze3:=Qc (rfl:gX f336 []=_)
def Zlv:=Qc (rfl:gX f337 []=_)
def Zu5:=Qc (rfl:gX f338 []=_)
def Zh3:=Qc (rfl:gX f339 []=_)
def Zot:=Qc (rfl:gX f340 []=_)
def Zg9:=Qc (rfl:gX f341 []=_)
def Zq3:=Qc (rfl:gX f342 []=_)
def Ztl:=Qc (rfl:gX f343 []=_)
def Zdn:=Qc (rfl:gX f344 []=_)
def Zen:=Qc (rfl:gX f345 []=_)
def Zpo:=Qc (rfl:gX f346 []=_)
def Zmz:=Qc (rfl:gX f347 []=_)
def Zi5:=Qc (rfl:gX f348 []=_)
def Zjs:=Qc (rfl:gX f349 []=_)
def Zhr:=Qc (rfl:gX f350 []=_)
def Zkp:=Qc (rfl:gX f351 []=_)
def Zeh:=Qc (rfl:gX f352 []=_)
def Zt6:=Qc (rfl:gX f353 []=_)
def Zgm:=Qc (rfl:gX f354 []=_)
def Zll:=Qc (rfl:gX f355 []=_)
def Zju:=Qc (rfl:gX f356 []=_)
def Zim:=Qc (rfl:gX f357 []=_)
def Zno:=Qc (rfl:gX f358 []=_)
def Zpn:=Qc (rfl:gX f359 []=_)
def Ztk:=Qc (rfl:gX f360 []=_)
def Zm7:=Qc (rfl:gX f361 []=_)
def Zpl:=Qc (rfl:gX f362 []=_)
def Zfu:=Qc (rfl:gX f363 []=_)
def Zl5:CFunc:=Qc (show gX f364 [false,false,false,false,false,false,true]=_ from rfl)
def Zgt:=Qc (rfl:gX f365 []=_)
def Zom:=Qc (rfl:gX f366 []=_)
def Zi2:=Qc (rfl:gX f367 []=_)
def Zob:=Qc (rfl:gX f368 []=_)
def Ztc:=Qc (rfl:gX f369 []=_)
def Zsf:=Qc (rfl:gX f370 []=_)
def Zt1:=Qc (rfl:gX f371 []=_)
def Zqw:=Qc (rfl:gX f372 []=_)
def Znm:=Qc (rfl:gX f373 []=_)
def Zgo:=Qc (rfl:gX f374 []=_)
def Zrk:=Qc (rfl:gX f375 []=_)
def Zsl:=Qc (rfl:gX f376 []=_)
def Zuo:=Qc (rfl:gX f377 []=_)
def Zkf:=Qc (rfl:gX f378 []=_)
def Zql:=Qc (rfl:gX f379 []=_)
def Zm2:=Qc (rfl:gX f380 []=_)
def Zfc:=Qc (rfl:gX f381 []=_)
def Zqk:=Qc (rfl:gX f382 []=_)
def Zgv:=Qc (rfl:gX f383 []=_)
def Zk8:=Qc (rfl:gX f384 []=_)
def Zg8:=Qc (rfl:gX f385 []=_)
def Zhc:=Qc (rfl:gX f386 []=_)
def Zhd:=Qc (rfl:gX f387 []=_)
def Zru:=Qc (rfl:gX f388 []=_)
def Zdf:CFunc:=Qc (show gX f389 [false,false,false,false,false,true,false,true,true,true,false,true,true,true]=_ from rfl)
def Zj5:=Qc (rfl:gX f390 []=_)
def Zoi:=Qc (rfl:gX f391 []=_)
def Zfy:=Qc (rfl:gX f392 []=_)
def Zht:=Qc (rfl:gX f393 []=_)
def Zo1:=Qc (rfl:gX f394 []=_)
def Zs1:=Qc (rfl:gX f395 []=_)
def Zhx:=Qc (rfl:gX f397 []=_)
def Zhg:=Qc (rfl:gX f398 []=_)
def Zm9:=Qc (rfl:gX f399 []=_)
def Zhb:=Qc (rfl:gX f400 []=_)
def Zk3:=Qc (rfl:gX f401 []=_)
def Zjp:=Qc (rfl:gX f402 []=_)
def Zm8:=Qc (rfl:gX f403 []=_)
def Zfm:=Qc (rfl:gX f404 []=_)
def Zr6:=Qc (rfl:gX f405 []=_)
def Zix:=Qc (rfl:gX f406 []=_)
def Zlh:=Qc (rfl:gX f407 []=_)
def Zds:=Qc (rfl:gX f408 []=_)
def Zl0:=Qc (rfl:gX f409 []=_)
def Zfz:=Qc (rfl:gX f410 []=_)
def Ziq:=Qc (rfl:gX f411 []=_)
def Zhu:=Qc (rfl:gX f412 []=_)
def Zep:=Qc (rfl:gX f413 []=_)
def Zr9:=Qc (rfl:gX f414 []=_)
def Zq9:=Qc (rfl:gX f415 []=_)
def Zoh:=Qc (rfl:gX f416 []=_)
def Zsw:=Qc (rfl:gX f417 []=_)
def Zmo:=Qc (rfl:gX f418 []=_)
def Zl3:=Qc (rfl:gX f419 []=_)
def Zkb:=Qc (rfl:gX f420 []=_)
def Ziv:=Qc (rfl:gX f421 []=_)
def Zgs:=Qc (rfl:gX f422 []=_)
def Zqj:=Qc (rfl:gX f423 []=_)
def Ztn:=Qc (rfl:gX f424 []=_)
def Zgu:=Qc (rfl:gX f425 []=_)
def Zlo:=Qc (rfl:gX f426 []=_)
def Ze6:=Qc (rfl:gX f427 []=_)
def Zmt:=Qc (rfl:gX f428 []=_)
def Zqt:=Qc (rfl:gX f429 []=_)
def Ztx:=Qc (rfl:gX f430 []=_)
def Ztr:=Qc (rfl:gX f431 []=_)
def Zei:=Qc (rfl:gX f432 []=_)
def Zge:=Qc (rfl:gX f433 []=_)
def Zpx:=Qc (rfl:gX f434 []=_)
def Zdp:=Qc (rfl:gX f435 []=_)
def Zf1:=Qc (rfl:gX f436 []=_)
def Zq7:=Qc (rfl:gX f437 []=_)
def Zrv:=Qc (rfl:gX f438 []=_)
def Zf8:=Qc (rfl:gX f439 []=_)
def Zh8:=Qc (rfl:gX f440 []=_)
def Zkr:=Qc (rfl:gX f441 []=_)
def Zuc:=Qc (rfl:gX f442 []=_)
def Zkx:=Qc (rfl:gX f443 []=_)
def Zgq:=Qc (rfl:gX f444 []=_)
def Zsz:=Qc (rfl:gX f445 []=_)
def Zii:=Qc (rfl:gX f446 []=_)
def Zoq:=Qc (rfl:gX f447 []=_)
def Zi4:=Qc (rfl:gX f448 []=_)
def Ztj:=Qc (rfl:gX f449 []=_)
def Zg7:=Qc (rfl:gX f450 []=_)
def Zjo:=Qc (rfl:gX f451 []=_)
def Zsu:=Qc (rfl:gX f452 []=_)
def Ztb:=Qc (rfl:gX f453 []=_)
def Ze9:=Qc (rfl:gX f454 []=_)
def Zid:=Qc (rfl:gX f455 []=_)
def Zr7:=Qc (rfl:gX f456 []=_)
def Zl8:=Qc (rfl:gX f457 []=_)
def Zil:=Qc (rfl:gX f458 []=_)
def Zks:=Qc (rfl:gX f459 []=_)
def Zhp:=Qc (rfl:gX f460 []=_)
def Zsd:=Qc (rfl:gX f461 []=_)
def Zej:=Qc (rfl:gX f462 []=_)
def Zjt:=Qc (rfl:gX f463 []=_)
def Zo7:=Qc (rfl:gX f464 []=_)
def Zp8:=Qc (rfl:gX f465 []=_)
def Zs3:=Qc (rfl:gX f466 []=_)
def Zsj:=Qc (rfl:gX f467 []=_)
def Zum:=Qc (rfl:gX f468 []=_)
def Zip:=Qc (rfl:gX f469 []=_)
def Zf0:=Qc (rfl:gX f470 []=_)
def Zdo:=Qc (rfl:gX f471 []=_)
def Zqg:=Qc (rfl:gX f472 []=_)
def Zj4:=Qc (rfl:gX f473 []=_)
def Zke:=Qc (rfl:gX f474 []=_)
def Zfo:=Qc (rfl:gX f475 []=_)
def Zj9:=Qc (rfl:gX f476 []=_)
def Zsn:=Qc (rfl:gX f477 []=_)
def Zlw:=Qc (rfl:gX f478 []=_)
def Zie:=Qc (rfl:gX f479 []=_)
def Zqx:=Qc (rfl:gX f480 []=_)
def Zsx:=Qc (rfl:gX f481 []=_)
def Zs6:=Qc (rfl:gX f482 []=_)
def Zpd:=Qc (rfl:gX f483 []=_)
def Zia:=Qc (rfl:gX f484 []=_)
def Zlz:=Qc (rfl:gX f485 []=_)
def Zl1:CFunc:=Qc (show gX f486 [false,false,true]=_ from rfl)
def Zoa:=Qc (rfl:gX f487 []=_)
def Zlm:=Qc (rfl:gX f488 []=_)
def Zg3:=Qc (rfl:gX f489 []=_)
def Zff:=Qc (rfl:gX f490 []=_)
def Zrp:=Qc (rfl:gX f491 []=_)
def Zek:=Qc (rfl:gX f492 []=_)
def Zkq:=Qc (rfl:gX f493 []=_)
def Zpz:=Qc (rfl:gX f494 []=_)
def Zgi:=Qc (rfl:gX f495 []=_)
def Zoc:=Qc (rfl:gX f496 []=_)
def Zt7:=Qc (rfl:gX f497 []=_)
def Zn5:=Qc (rfl:gX f498 []=_)
def Zk1:=Qc (rfl:gX f499 []=_)
def Znp:=Qc (rfl:gX f500 []=_)
def Zf7:=Qc (rfl:gX f501 []=_)
def Zmu:=Qc (rfl:gX f502 []=_)
def Zla:=Qc (rfl:gX f503 []=_)
def Zls:=Qc (rfl:gX f504 []=_)
def Zm1:=Qc (rfl:gX f505 []=_)
def Zj7:=Qc (rfl:gX f506 []=_)
def Zrt:=Qc (rfl:gX f507 []=_)
def Zrx:=Qc (rfl:gX f508 []=_)
def Zor:=Qc (rfl:gX f509 []=_)
def Zrw:=Qc (rfl:gX f510 []=_)
def Zqy:=Qc (rfl:gX f511 []=_)
def Zoz:=Qc (rfl:gX f512 []=_)
def Zr5:=Qc (rfl:gX f513 []=_)
def Zua:=Qc (rfl:gX f514 []=_)
def Zef:=Qc (rfl:gX f515 []=_)
def Zpe:=Qc (rfl:gX f517 []=_)
def Zr4:=Qc (rfl:gX f518 []=_)
def Zi9:=Qc (rfl:gX f519 []=_)
def Zt0:=Qc (rfl:gX f520 []=_)
def Zk2:=Qc (rfl:gX f521 []=_)
def Zqo:=Qc (rfl:gX f522 []=_)
def Zr8:=Qc (rfl:gX f523 []=_)
def Zou:=Qc (rfl:gX f524 []=_)
def Zgy:=Qc (rfl:gX f525 []=_)
def Zh9:=Qc (rfl:gX f526 []=_)
def Zfd:=Qc (rfl:gX f527 []=_)
def Zpb:=Qc (rfl:gX f528 []=_)
def Zq0:=Qc (rfl:gX f529 []=_)
def Zn8:=Qc (rfl:gX f530 []=_)
def Zrr:=Qc (rfl:gX f531 []=_)
def Ze7:=Qc (rfl:gX f532 []=_)
def Znx:=Qc (rfl:gX f533 []=_)
def Zuk:=Qc (rfl:gX f534 []=_)
def Zdu:=Qc (rfl:gX f535 []=_)
def Zu3:=Qc (rfl:gX f536 []=_)
def Zpf:=Qc (rfl:gX f537 []=_)
def Zu6:=Qc (rfl:gX f540 []=_)
def Ztg:=Qc (rfl:gX f541 []=_)
def Zpg:=Qc (rfl:gX f542 []=_)
def Zgp:=Qc (rfl:gX f543 []=_)
def Zti:=Qc (rfl:gX f544 []=_)
def Zrh:=Qc (rfl:gX f545 []=_)
def Zh4:=Qc (rfl:gX f546 []=_)
def Zf3:=Qc (rfl:gX f547 []=_)
def Zpy:=Qc (rfl:gX f548 []=_)
def Zka:=Qc (rfl:gX f566 []=_)
def Zfv:=Qc (rfl:gX f569 []=_)
def Zq6:=Qc (rfl:gX f570 []=_)
def Zqe:=Qc (rfl:gX f571 []=_)
def Zdw:=Qc (rfl:gX f572 []=_)
def Zkd:=Qc (rfl:gX f573 []=_)
def Zp4:=Qc (rfl:gX f574 []=_)
def Ztw:=Qc (rfl:gX f575 []=_)
def Zew:=Qc (rfl:gX f576 []=_)
def Znj:=Qc (rfl:gX f577 []=_)
def Zdx:=Qc (rfl:gX f578 []=_)
def Zlk:=Qc (rfl:gX f579 []=_)
def Zib:=Qc (rfl:gX f580 []=_)
def Zfj:=Qc (rfl:gX f581 []=_)
def Zmy:=Qc (rfl:gX f582 []=_)
def Zu8:=Qc (rfl:gX f583 []=_)
def Z8w:List (Option CFunc) := [none,none,none,some c3,some c4,some c5,some c6,some c7,some c8,some c9,some c10,some c11,some c12,some c13,some c14,some c15,some c16,some c17,some c18,some c19,some c20,some c21,some c22,some c23,some c24,some c25,some c26,some c27,some c28,some c29,some c30,some c31,some c32,some c33,some c34,some c35,some c36,some c37,some c38,some c39,some c40,some c41,some c42,some c43,some c44,some c45,some c46,some c47,some c48,some c49,some c50,some c51,some c52,some c53,some c54,some c55,some c56,some c57,some c58,some c59,some c60,some c61,some c62,some c63,some c64,some c65,some c66,some c67,some c68,some c69,some c70,some c71,some c72,some c73,some c74,some c75,some c76,some c77,some c78,some c79,some c80,some c81,some c82,some c83,some c84,some c85,some c86,some c87,some c88,some c89,some c90,some c91,some c92,some c93,some c94,some c95,some c96,some c97,some c98,some c99,some Ziy,some Zec,some Qpu,some Zqb,some Zhi,some Zja,some Zdv,some Zme,some Zle,some Zhl,some Zty,some Zst,some Zes,some Zga,some Zto,some Zrm,some Zj2,some Zpa,some Zs7,some Zrj,some Zgr,some Zm0,some Zsa,some Zqh,some Zu7,some Zsh,some Zfx,some Zqm,some Zpc,some Zqd,some Zmr,some Znz,some Zrf,some Zmf,some Zun,some Zeu,some Zue,some Zjv,some Zgj,some Zed,some Zij,some Zmv,some Zrg,some Zre,some Zkz,some Zgb,some Zjk,some Zgd,some Zqv,some Znb,some Zr1,some Zdi,some Zlt,some Zma,some Zub,some Znk,some Zlu,some Znc,some Zeg,some Zgc,some Zlc,some Zi8,some Zj3,some Zih,some Zn6,some Zku,some Zmw,some Zg6,some Zlq,some Ztm,some Zo4,some Zdj,some Zsr,some Zl7,some Zmk,some Znv,some Zug,some Zdl,some Zq1,some Zex,some Znw,some Zf5,some Zjh,some Zjm,some Zee,some Zlp,some Zm4,some Zif,some Zgz,some Zmd,some Zry,some Zez,some Zl6,some Zne,some Zu2,some Zqq,some Zo0,some Zmj,some Zu4,some Zfw,some Zhh,some Zt5,some Zhk,some Zgw,some Zel,some Zq8,some Zjx,some Zdg,some Zq5,some Zhw,some Zr3,some Zk6,some Zow,some Zrq,some Zng,some Zra,some Zp5,some Zp7,some Zf6,some Zml,some Ztu,some Znh,some Zk0,some Zeq,some Zn9,some Zpw,some Zem,some Zl4,some Zjg,some Zro,some Zn3,some Zop,some Zdq,some Ze5,some Zha,some Zp6,some Zi1,some Zrz,some Zmm,some Zje,some Zts,some Zf2,some Zta,some Ze4,some Zfg,some Zo5,some Zdc,some Zna,some Zuf,some Ziu,some Zp2,some Zs8,some Zog,some Zji,some Zin,some Zo2,some Znq,some Zn7,some Zqz,some Ze0,some Zj1,some Zld,some Zfa,some Zs9,some Zmq,some Zh6,some Zhq,some Zu0,some Zqs,some Zkv,some Zkt,some Zur,some Zui,some Zt3,some Znf,none,some Zeb,some Zg1,some Zsi,some Zni,some Zrc,some Zhe,some Zm6,some Ze8,some Zqn,some Zox,some Zol,some Zjw,some Zt8,some Zsm,some Zri,some Zkn,some Zof,some Zfk,some Zjn,some Zo8,some Zk9,some Zlg,some Zo3,some Zki,some Zly,some Ztf,some Zdd,some Zlj,some Zjj,some Ztz,some Zkw,some Zn4,some Zhy,some Zh0,some Zfb,some Zk7,some Zik,some Znd,some Zss,some Zrb,some Zpu,some Zjr,some Zud,some Zoo,some Zuh,some Zps,some Zt9,some Zsg,some Zea,some Zde,some Zdr,some Zqc,some Zoy,some Zj6,some Zky,some Zp1,some Zkc,some Zsk,some Zgg,some Zi0,some Ze3,some Zlv,some Zu5,some Zh3,some Zot,some Zg9,some Zq3,some Ztl,some Zdn,some Zen,some Zpo,some Zmz,some Zi5,some Zjs,some Zhr,some Zkp,some Zeh,some Zt6,some Zgm,some Zll,some Zju,some Zim,some Zno,some Zpn,some Ztk,some Zm7,some Zpl,some Zfu,some Zl5,some Zgt,some Zom,some Zi2,some Zob,some Ztc,some Zsf,some Zt1,some Zqw,some Znm,some Zgo,some Zrk,some Zsl,some Zuo,some Zkf,some Zql,some Zm2,some Zfc,some Zqk,some Zgv,some Zk8,some Zg8,some Zhc,some Zhd,some Zru,some Zdf,some Zj5,some Zoi,some Zfy,some Zht,some Zo1,some Zs1,none,some Zhx,some Zhg,some Zm9,some Zhb,some Zk3,some Zjp,some Zm8,some Zfm,some Zr6,some Zix,some Zlh,some Zds,some Zl0,some Zfz,some Ziq,some Zhu,some Zep,some Zr9,some Zq9,some Zoh,some Zsw,some Zmo,some Zl3,some Zkb,some Ziv,some Zgs,some Zqj,some Ztn,some Zgu,some Zlo,some Ze6,some Zmt,some Zqt,some Ztx,some Ztr,some Zei,some Zge,some Zpx,some Zdp,some Zf1,some Zq7,some Zrv,some Zf8,some Zh8,some Zkr,some Zuc,some Zkx,some Zgq,some Zsz,some Zii,some Zoq,some Zi4,some Ztj,some Zg7,some Zjo,some Zsu,some Ztb,some Ze9,some Zid,some Zr7,some Zl8,some Zil,some Zks,some Zhp,some Zsd,some Zej,some Zjt,some Zo7,some Zp8,some Zs3,some Zsj,some Zum,some Zip,some Zf0,some Zdo,some Zqg,some Zj4,some Zke,some Zfo,some Zj9,some Zsn,some Zlw,some Zie,some Zqx,some Zsx,some Zs6,some Zpd,some Zia,some Zlz,some Zl1,some Zoa,some Zlm,some Zg3,some Zff,some Zrp,some Zek,some Zkq,some Zpz,some Zgi,some Zoc,some Zt7,some Zn5,some Zk1,some Znp,some Zf7,some Zmu,some Zla,some Zls,some Zm1,some Zj7,some Zrt,some Zrx,some Zor,some Zrw,some Zqy,some Zoz,some Zr5,some Zua,some Zef,none,some Zpe,some Zr4,some Zi9,some Zt0,some Zk2,some Zqo,some Zr8,some Zou,some Zgy,some Zh9,some Zfd,some Zpb,some Zq0,some Zn8,some Zrr,some Ze7,some Znx,some Zuk,some Zdu,some Zu3,some Zpf,none,none,some Zu6,some Ztg,some Zpg,some Zgp,some Zti,some Zrh,some Zh4,some Zf3,some Zpy,none,none,none,none,none,none,none,none,none,none,none,none,none,none,none,none,none,some Zka,none,none,some Zfv,some Zq6,some Zqe,some Zdw,some Zkd,some Zp4,some Ztw,some Zew,some Znj,some Zdx,some Zlk,some Zib,some Zfj,some Zmy,some Zu8]
end
end Go.Av
