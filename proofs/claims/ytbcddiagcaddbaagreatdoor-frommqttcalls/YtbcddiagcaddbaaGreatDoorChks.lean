/- Part of FrommqttCalls: the law returns true; no condition. -/
import Derived.Test.YtbcddiagcaddbaaGreatDoorCode1
import Derived.Test.YtbcddiagcaddbaaGreatDoorAvChk
import Derived.KernelRfl
import Derived.Test.YtbcddiagcaddbaaGreatDoorProg
set_option linter.all false
namespace Go.Av
noncomputable section
open Go.Proofs
set_option maxRecDepth 100000
abbrev cQ:=Q75 Tryz.prog
theorem k3:cQ 3 c3=true:=by kernel_rfl
theorem k4:cQ 4 c4=true:=by kernel_rfl
theorem k5:cQ 5 c5=true:=by kernel_rfl
theorem k6:cQ 6 c6=true:=by kernel_rfl
theorem k7:cQ 7 c7=true:=by kernel_rfl
theorem k8:cQ 8 c8=true:=by kernel_rfl
theorem k9:cQ 9 c9=true:=by kernel_rfl
theorem k10:cQ 10 c10=true:=by kernel_rfl
theorem k11:cQ 11 c11=true:=by kernel_rfl
theorem k12:cQ 12 c12=true:=by kernel_rfl
theorem k13:cQ 13 c13=true:=by kernel_rfl
theorem k14:cQ 14 c14=true:=by kernel_rfl
theorem k15:cQ 15 c15=true:=by kernel_rfl
theorem k16:cQ 16 c16=true:=by kernel_rfl
theorem k17:cQ 17 c17=true:=by kernel_rfl
theorem k18:cQ 18 c18=true:=by kernel_rfl
theorem k19:cQ 19 c19=true:=by kernel_rfl
theorem k20:cQ 20 c20=true:=by kernel_rfl
theorem k21:cQ 21 c21=true:=by kernel_rfl
theorem k22:cQ 22 c22=true:=by kernel_rfl
theorem k23:cQ 23 c23=true:=by kernel_rfl
theorem k24:cQ 24 c24=true:=by kernel_rfl
theorem k25:cQ 25 c25=true:=by kernel_rfl
theorem k26:cQ 26 c26=true:=by kernel_rfl
theorem k27:cQ 27 c27=true:=by kernel_rfl
theorem k28:cQ 28 c28=true:=by kernel_rfl
theorem k29:cQ 29 c29=true:=by kernel_rfl
theorem k30:cQ 30 c30=true:=by kernel_rfl
theorem k31:cQ 31 c31=true:=by kernel_rfl
theorem k32:cQ 32 c32=true:=by kernel_rfl
theorem k33:cQ 33 c33=true:=by kernel_rfl
end
end Go.Av
namespace Go.Av
noncomputable section
open Go.Proofs
set_option maxRecDepth 100000
theorem k34:cQ 34 c34=true:=by kernel_rfl
theorem k35:cQ 35 c35=true:=by kernel_rfl
theorem k36:cQ 36 c36=true:=by kernel_rfl
theorem k37:cQ 37 c37=true:=by kernel_rfl
theorem k38:cQ 38 c38=true:=by kernel_rfl
theorem k39:cQ 39 c39=true:=by kernel_rfl
theorem k40:cQ 40 c40=true:=by kernel_rfl
theorem k41:cQ 41 c41=true:=by kernel_rfl
theorem k42:cQ 42 c42=true:=by kernel_rfl
theorem k43:cQ 43 c43=true:=by kernel_rfl
theorem k44:cQ 44 c44=true:=by kernel_rfl
theorem k45:cQ 45 c45=true:=by kernel_rfl
theorem k46:cQ 46 c46=true:=by kernel_rfl
theorem k47:cQ 47 c47=true:=by kernel_rfl
theorem k48:cQ 48 c48=true:=by kernel_rfl
theorem k49:cQ 49 c49=true:=by kernel_rfl
theorem k50:cQ 50 c50=true:=by kernel_rfl
theorem k51:cQ 51 c51=true:=by kernel_rfl
theorem k52:cQ 52 c52=true:=by kernel_rfl
theorem k53:cQ 53 c53=true:=by kernel_rfl
theorem k54:cQ 54 c54=true:=by kernel_rfl
theorem k55:cQ 55 c55=true:=by kernel_rfl
theorem k56:cQ 56 c56=true:=by kernel_rfl
theorem k57:cQ 57 c57=true:=by kernel_rfl
theorem k58:cQ 58 c58=true:=by kernel_rfl
theorem k59:cQ 59 c59=true:=by kernel_rfl
theorem k60:cQ 60 c60=true:=by kernel_rfl
theorem k61:cQ 61 c61=true:=by kernel_rfl
theorem k62:cQ 62 c62=true:=by kernel_rfl
theorem k63:cQ 63 c63=true:=by kernel_rfl
theorem k64:cQ 64 c64=true:=by kernel_rfl
theorem k65:cQ 65 c65=true:=by kernel_rfl
theorem k66:cQ 66 c66=true:=by kernel_rfl
theorem k67:cQ 67 c67=true:=by kernel_rfl
theorem k68:cQ 68 c68=true:=by kernel_rfl
theorem k69:cQ 69 c69=true:=by kernel_rfl
theorem k70:cQ 70 c70=true:=by kernel_rfl
theorem k71:cQ 71 c71=true:=by kernel_rfl
theorem k72:cQ 72 c72=true:=by kernel_rfl
theorem k73:cQ 73 c73=true:=by kernel_rfl
end
end Go.Av
namespace Go.Av
noncomputable section
open Go.Proofs
set_option maxRecDepth 100000
theorem k74:cQ 74 c74=true:=by kernel_rfl
theorem k75:cQ 75 c75=true:=by kernel_rfl
theorem k76:cQ 76 c76=true:=by kernel_rfl
theorem k77:cQ 77 c77=true:=by kernel_rfl
theorem k78:cQ 78 c78=true:=by kernel_rfl
theorem k79:cQ 79 c79=true:=by kernel_rfl
theorem k80:cQ 80 c80=true:=by kernel_rfl
theorem k81:cQ 81 c81=true:=by kernel_rfl
theorem k82:cQ 82 c82=true:=by kernel_rfl
theorem k83:cQ 83 c83=true:=by kernel_rfl
theorem k84:cQ 84 c84=true:=by kernel_rfl
theorem k85:cQ 85 c85=true:=by kernel_rfl
theorem k86:cQ 86 c86=true:=by kernel_rfl
theorem k87:cQ 87 c87=true:=by kernel_rfl
theorem k88:cQ 88 c88=true:=by kernel_rfl
theorem k89:cQ 89 c89=true:=by kernel_rfl
theorem k90:cQ 90 c90=true:=by kernel_rfl
theorem k91:cQ 91 c91=true:=by kernel_rfl
theorem k92:cQ 92 c92=true:=by kernel_rfl
theorem k93:cQ 93 c93=true:=by kernel_rfl
theorem k94:cQ 94 c94=true:=by kernel_rfl
theorem k95:cQ 95 c95=true:=by kernel_rfl
theorem k96:cQ 96 c96=true:=by kernel_rfl
theorem k97:cQ 97 c97=true:=by kernel_rfl
theorem k98:cQ 98 c98=true:=by kernel_rfl
theorem k99:cQ 99 c99=true:=by kernel_rfl
theorem Zub:cQ 100 Zak=true:=by kernel_rfl
theorem Zag:cQ 101 Zjn=true:=by kernel_rfl
theorem Zcj:cQ 102 Zbn=true:=by kernel_rfl
theorem Zek:cQ 103 Zfq=true:=by kernel_rfl
theorem Zk0:cQ 104 Zbs=true:=by kernel_rfl
theorem Zge:cQ 105 Zgv=true:=by kernel_rfl
theorem Zip:cQ 106 Zfs=true:=by kernel_rfl
theorem Zi0:cQ 107 Zf0=true:=by kernel_rfl
theorem Zch:cQ 108 Znu=true:=by kernel_rfl
theorem Zhp:cQ 109 Zdc=true:=by kernel_rfl
theorem Zhd:cQ 110 Zdj=true:=by kernel_rfl
theorem Zq4:cQ 111 Zp9=true:=by kernel_rfl
theorem Zv1:cQ 112 Zc3=true:=by kernel_rfl
theorem Zqj:cQ 113 Zmw=true:=by kernel_rfl
theorem Zwl:cQ 114 Zbo=true:=by kernel_rfl
theorem Ze1:cQ 115 Zee=true:=by kernel_rfl
theorem Ztf:cQ 116 Zgy=true:=by kernel_rfl
theorem Zh3:cQ 117 Zpa=true:=by kernel_rfl
theorem Zus:cQ 118 Zk3=true:=by kernel_rfl
theorem Ze0:cQ 119 Zo6=true:=by kernel_rfl
theorem Zrc:cQ 120 Zda=true:=by kernel_rfl
theorem Zn5:cQ 121 Zfg=true:=by kernel_rfl
theorem Zpu:cQ 122 Zg1=true:=by kernel_rfl
theorem Zar:cQ 123 Zc8=true:=by kernel_rfl
theorem Zo2:cQ 124 Zl7=true:=by kernel_rfl
theorem Zmn:cQ 125 Zop=true:=by kernel_rfl
end
end Go.Av
namespace Go.Av
noncomputable section
open Go.Proofs
set_option maxRecDepth 100000
theorem Zm9:cQ 126 Zbg=true:=by kernel_rfl
theorem Zm2:cQ 127 Zid=true:=by kernel_rfl
theorem Znt:cQ 128 Zbh=true:=by kernel_rfl
theorem Zj6:cQ 129 Zct=true:=by kernel_rfl
theorem Zc0:cQ 130 Ze8=true:=by kernel_rfl
theorem Zsf:cQ 131 Zkk=true:=by kernel_rfl
theorem Zpj:cQ 132 Zc6=true:=by kernel_rfl
theorem Zgj:cQ 133 Zau=true:=by kernel_rfl
theorem Zwy:cQ 134 Zos=true:=by kernel_rfl
theorem Zt3:cQ 135 Zok=true:=by kernel_rfl
theorem Zmb:cQ 136 Ziz=true:=by kernel_rfl
theorem Zq1:cQ 137 Zc2=true:=by kernel_rfl
theorem Zkt:cQ 138 Zow=true:=by kernel_rfl
theorem Zk9:cQ 139 Zbm=true:=by kernel_rfl
theorem Zwk:cQ 140 Zi6=true:=by kernel_rfl
theorem Zof:cQ 141 Zcf=true:=by kernel_rfl
theorem Zxn:cQ 142 Zax=true:=by kernel_rfl
theorem Zxw:cQ 143 Zk2=true:=by kernel_rfl
theorem Zrl:cQ 144 Zdf=true:=by kernel_rfl
theorem Zu4:cQ 145 Zeu=true:=by kernel_rfl
theorem Zwa:cQ 146 Zbp=true:=by kernel_rfl
theorem Zce:cQ 147 Zfb=true:=by kernel_rfl
theorem Zqq:cQ 148 Zlu=true:=by kernel_rfl
theorem Zvs:cQ 149 Zf3=true:=by kernel_rfl
theorem Zvd:cQ 150 Zbl=true:=by kernel_rfl
theorem Zfc:cQ 151 Zbw=true:=by kernel_rfl
theorem Zes:cQ 152 Zjf=true:=by kernel_rfl
theorem Zaj:cQ 153 Zej=true:=by kernel_rfl
theorem Zhz:cQ 154 Zji=true:=by kernel_rfl
theorem Zvx:cQ 155 Zn1=true:=by kernel_rfl
theorem Zta:cQ 156 Zam=true:=by kernel_rfl
theorem Zu8:cQ 157 Zf5=true:=by kernel_rfl
theorem Zxv:cQ 158 Zeo=true:=by kernel_rfl
theorem Zr6:cQ 159 Zh0=true:=by kernel_rfl
theorem Zua:cQ 160 Zn3=true:=by kernel_rfl
theorem Zlj:cQ 161 Zpi=true:=by kernel_rfl
theorem Zm5:cQ 162 Zdu=true:=by kernel_rfl
theorem Zlm:cQ 163 Zpt=true:=by kernel_rfl
theorem Zcp:cQ 164 Zq7=true:=by kernel_rfl
theorem Zah:cQ 165 Zbf=true:=by kernel_rfl
theorem Zhq:cQ 166 Zel=true:=by kernel_rfl
theorem Zrm:cQ 167 Zjy=true:=by kernel_rfl
end
end Go.Av
namespace Go.Av
noncomputable section
open Go.Proofs
set_option maxRecDepth 100000
theorem Znf:cQ 168 Zon=true:=by kernel_rfl
theorem Zs3:cQ 169 Zgm=true:=by kernel_rfl
theorem Zgp:cQ 170 Zg8=true:=by kernel_rfl
theorem Zwv:cQ 171 Zn0=true:=by kernel_rfl
theorem Zke:cQ 172 Zdy=true:=by kernel_rfl
theorem Zr0:cQ 173 Zoo=true:=by kernel_rfl
theorem Zfe:cQ 174 Zfv=true:=by kernel_rfl
theorem Zx8:cQ 175 Ziv=true:=by kernel_rfl
theorem Zdq:cQ 176 Ze4=true:=by kernel_rfl
theorem Zl3:cQ 177 Zfy=true:=by kernel_rfl
theorem Zgn:cQ 178 Zdi=true:=by kernel_rfl
theorem Zq3:cQ 179 Zhr=true:=by kernel_rfl
theorem Zht:cQ 180 Zo7=true:=by kernel_rfl
theorem Zai:cQ 181 Zem=true:=by kernel_rfl
theorem Zn6:cQ 182 Zan=true:=by kernel_rfl
theorem Zhn:cQ 183 Zjd=true:=by kernel_rfl
theorem Zj2:cQ 184 Zhe=true:=by kernel_rfl
theorem Zpd:cQ 185 Ziq=true:=by kernel_rfl
theorem Zir:cQ 186 Zio=true:=by kernel_rfl
theorem Zq9:cQ 187 Zo1=true:=by kernel_rfl
theorem Zlt:cQ 188 Zph=true:=by kernel_rfl
theorem Zbc:cQ 189 Zp2=true:=by kernel_rfl
theorem Znb:cQ 190 Zpe=true:=by kernel_rfl
theorem Zi2:cQ 191 Zoe=true:=by kernel_rfl
theorem Zcv:cQ 192 Zao=true:=by kernel_rfl
theorem Zaf:cQ 193 Zjm=true:=by kernel_rfl
theorem Zby:cQ 194 Zff=true:=by kernel_rfl
theorem Ze5:cQ 195 Zf1=true:=by kernel_rfl
theorem Zg0:cQ 196 Zi3=true:=by kernel_rfl
theorem Zvh:cQ 197 Zot=true:=by kernel_rfl
theorem Zkv:cQ 198 Zg9=true:=by kernel_rfl
theorem Zkz:cQ 199 Zep=true:=by kernel_rfl
theorem Zn9:cQ 200 Zib=true:=by kernel_rfl
theorem Zl6:cQ 201 Zmz=true:=by kernel_rfl
theorem Zb9:cQ 202 Zkx=true:=by kernel_rfl
theorem Zsk:cQ 203 Zhk=true:=by kernel_rfl
theorem Zcq:cQ 204 Zjq=true:=by kernel_rfl
end
end Go.Av
namespace Go.Av
noncomputable section
open Go.Proofs
set_option maxRecDepth 100000
theorem Z8g:cQ 205 Zml=true:=by kernel_rfl
theorem Zj0:cQ 206 Zeq=true:=by kernel_rfl
theorem Zpr:cQ 207 Zig=true:=by kernel_rfl
theorem Zto:cQ 208 Zb1=true:=by kernel_rfl
theorem Zxm:cQ 209 Zcr=true:=by kernel_rfl
theorem Zx6:cQ 210 Zay=true:=by kernel_rfl
theorem Ztj:cQ 211 Zcz=true:=by kernel_rfl
theorem Zxb:cQ 212 Zqo=true:=by kernel_rfl
theorem Zu3:cQ 213 Zl4=true:=by kernel_rfl
theorem Zqx:cQ 214 Zdo=true:=by kernel_rfl
theorem Zuz:cQ 215 Zmm=true:=by kernel_rfl
theorem Zy0:cQ 216 Zad=true:=by kernel_rfl
theorem Zrd:cQ 217 Zgc=true:=by kernel_rfl
theorem Zxh:cQ 218 Zcm=true:=by kernel_rfl
theorem Zth:cQ 219 Zd4=true:=by kernel_rfl
theorem Zxf:cQ 220 Zix=true:=by kernel_rfl
theorem Zws:cQ 221 Zi1=true:=by kernel_rfl
theorem Zei:cQ 222 Zhu=true:=by kernel_rfl
theorem Zwr:cQ 223 Zf4=true:=by kernel_rfl
theorem Zn7:cQ 224 Zks=true:=by kernel_rfl
theorem Zj8:cQ 225 Zb5=true:=by kernel_rfl
theorem Zoy:cQ 226 Zo0=true:=by kernel_rfl
theorem Zdg:cQ 227 Zhl=true:=by kernel_rfl
theorem Zed:cQ 228 Zmo=true:=by kernel_rfl
theorem Zrh:cQ 229 Zqb=true:=by kernel_rfl
theorem Zwd:cQ 230 Zdx=true:=by kernel_rfl
theorem Zt7:cQ 231 Znh=true:=by kernel_rfl
theorem Zxc:cQ 232 Zlk=true:=by kernel_rfl
theorem Zux:cQ 233 Zcd=true:=by kernel_rfl
theorem Zvk:cQ 234 Zh1=true:=by kernel_rfl
theorem Zrn:cQ 235 Zlo=true:=by kernel_rfl
theorem Zu7:cQ 236 Zgx=true:=by kernel_rfl
theorem Zu2:cQ 237 Zbj=true:=by kernel_rfl
theorem Zs6:cQ 238 Ziy=true:=by kernel_rfl
theorem Zt2:cQ 239 Zgb=true:=by kernel_rfl
theorem Zc9:cQ 240 Zf2=true:=by kernel_rfl
end
end Go.Av
namespace Go.Av
noncomputable section
open Go.Proofs
set_option maxRecDepth 100000
theorem Zie:cQ 241 Zeg=true:=by kernel_rfl
theorem Zif:cQ 242 Zmt=true:=by kernel_rfl
theorem Zi8:cQ 243 Zoz=true:=by kernel_rfl
theorem Zgr:cQ 244 Zih=true:=by kernel_rfl
theorem Zqf:cQ 245 Zkr=true:=by kernel_rfl
theorem Zk1:cQ 246 Zij=true:=by kernel_rfl
theorem Zsy:cQ 247 Zj1=true:=by kernel_rfl
theorem Ztx:cQ 248 Zl9=true:=by kernel_rfl
theorem Zx3:cQ 249 Zp3=true:=by kernel_rfl
theorem Zxg:cQ 250 Zje=true:=by kernel_rfl
theorem Zt8:cQ 251 Zal=true:=by kernel_rfl
theorem Zsl:cQ 252 Zqm=true:=by kernel_rfl
theorem Zp0:cQ 253 Zaq=true:=by kernel_rfl
theorem Ze7:cQ 254 Zd0=true:=by kernel_rfl
theorem Zxa:cQ 255 Zni=true:=by kernel_rfl
theorem Ztp:cQ 256 Zdw=true:=by kernel_rfl
theorem Ztr:cQ 257 Zn8=true:=by kernel_rfl
theorem Zlx:cQ 258 Zim=true:=by kernel_rfl
theorem Za9:cQ 259 Zg3=true:=by kernel_rfl
theorem Zc5:cQ 260 Zii=true:=by kernel_rfl
theorem Zg2:cQ 261 Zbk=true:=by kernel_rfl
theorem Zwi:cQ 262 Zpw=true:=by kernel_rfl
theorem Zx9:cQ 263 Zhw=true:=by kernel_rfl
theorem Zwg:cQ 264 Zm7=true:=by kernel_rfl
theorem Zre:cQ 265 Zqc=true:=by kernel_rfl
theorem Zea:cQ 266 Zhi=true:=by kernel_rfl
theorem Zm1:cQ 267 Zlf=true:=by kernel_rfl
theorem Zjk:cQ 268 Zn2=true:=by kernel_rfl
theorem Zou:cQ 269 Zgq=true:=by kernel_rfl
theorem Zw7:cQ 270 Ze3=true:=by kernel_rfl
theorem Zjc:cQ 271 Zhm=true:=by kernel_rfl
theorem Zgg:cQ 272 Zgi=true:=by kernel_rfl
theorem Zu5:cQ 273 Zhv=true:=by kernel_rfl
theorem Za8:cQ 274 Zk6=true:=by kernel_rfl
theorem Zh8:cQ 275 Zpg=true:=by kernel_rfl
theorem Zba:cQ 276 Zqe=true:=by kernel_rfl
theorem Zdt:cQ 277 Zhh=true:=by kernel_rfl
theorem Zbz:cQ 278 Zlp=true:=by kernel_rfl
theorem Zqs:cQ 279 Zpk=true:=by kernel_rfl
theorem Zjp:cQ 280 Zb6=true:=by kernel_rfl
theorem Zaa:cQ 281 Zmj=true:=by kernel_rfl
theorem Zoi:cQ 282 Zma=true:=by kernel_rfl
theorem Zgk:cQ 283 Zdh=true:=by kernel_rfl
theorem Zp6:cQ 284 Zdz=true:=by kernel_rfl
theorem Za5:cQ 285 Zoa=true:=by kernel_rfl
theorem Zfk:cQ 286 Ze2=true:=by kernel_rfl
theorem Zcc:cQ 287 Zlg=true:=by kernel_rfl
end
end Go.Av
namespace Go.Av
noncomputable section
open Go.Proofs
set_option maxRecDepth 100000
theorem Zck:cQ 288 Zb8=true:=by kernel_rfl
theorem Zav:cQ 289 Zfr=true:=by kernel_rfl
theorem Zbx:cQ 290 Zp4=true:=by kernel_rfl
theorem Zfn:cQ 291 Zpz=true:=by kernel_rfl
theorem Zjz:cQ 292 Zl0=true:=by kernel_rfl
theorem Zk8:cQ 293 Zkl=true:=by kernel_rfl
theorem Zm4:cQ 294 Znw=true:=by kernel_rfl
theorem Zex:cQ 295 Zg6=true:=by kernel_rfl
theorem Zbt:cQ 296 Zq8=true:=by kernel_rfl
theorem Zcb:cQ 297 Zil=true:=by kernel_rfl
theorem Zdd:cQ 298 Zd8=true:=by kernel_rfl
theorem Zsc:cQ 299 Zjx=true:=by kernel_rfl
theorem Zr9:cQ 300 Zi5=true:=by kernel_rfl
theorem Ztw:cQ 301 Zjj=true:=by kernel_rfl
theorem Zut:cQ 302 Zoj=true:=by kernel_rfl
theorem Zsw:cQ 303 Zbd=true:=by kernel_rfl
theorem Zx1:cQ 304 Zlb=true:=by kernel_rfl
theorem Zrs:cQ 305 Zjg=true:=by kernel_rfl
theorem Zvv:cQ 306 Zac=true:=by kernel_rfl
theorem Zsz:cQ 307 Zho=true:=by kernel_rfl
theorem Zsd:cQ 308 Zod=true:=by kernel_rfl
theorem Zum:cQ 309 Znv=true:=by kernel_rfl
theorem Zs8:cQ 310 Zjr=true:=by kernel_rfl
theorem Zvf:cQ 311 Znr=true:=by kernel_rfl
theorem Zw8:cQ 312 Zmx=true:=by kernel_rfl
theorem Zet:cQ 313 Zqn=true:=by kernel_rfl
theorem Qyx:cQ 314 Zi9=true:=by kernel_rfl
theorem Z7f:cQ 315 Zc1=true:=by kernel_rfl
theorem Qwu:cQ 316 Zoq=true:=by kernel_rfl
theorem Z4y:cQ 317 Zjl=true:=by kernel_rfl
theorem Zqy:cQ 318 Zd3=true:=by kernel_rfl
theorem Zxo:cQ 319 Zas=true:=by kernel_rfl
theorem Zrb:cQ 320 Zl5=true:=by kernel_rfl
theorem Zqz:cQ 321 Zqt=true:=by kernel_rfl
theorem Zuh:cQ 322 Zc4=true:=by kernel_rfl
theorem Zs7:cQ 323 Zg5=true:=by kernel_rfl
theorem Zrg:cQ 324 Zmp=true:=by kernel_rfl
theorem Zsg:cQ 325 Zbv=true:=by kernel_rfl
theorem Zv5:cQ 326 Zd2=true:=by kernel_rfl
theorem Zsb:cQ 327 Znk=true:=by kernel_rfl
theorem Ziw:cQ 328 Zd7=true:=by kernel_rfl
theorem Zde:cQ 329 Zb7=true:=by kernel_rfl
theorem Zr7:cQ 330 Zlr=true:=by kernel_rfl
theorem Zs1:cQ 331 Zl8=true:=by kernel_rfl
end
end Go.Av
namespace Go.Av
noncomputable section
open Go.Proofs
set_option maxRecDepth 100000
theorem Zrq:cQ 332 Zjt=true:=by kernel_rfl
theorem Ztb:cQ 333 Zdn=true:=by kernel_rfl
theorem Zug:cQ 334 Zgu=true:=by kernel_rfl
theorem Zmh:cQ 335 Zha=true:=by kernel_rfl
theorem Zuc:cQ 336 Zh5=true:=by kernel_rfl
theorem Zls:cQ 337 Zlc=true:=by kernel_rfl
theorem Zh4:cQ 338 Zj4=true:=by kernel_rfl
theorem Zcl:cQ 339 Zga=true:=by kernel_rfl
theorem Zol:cQ 340 Zmk=true:=by kernel_rfl
theorem Zfl:cQ 341 Zj9=true:=by kernel_rfl
theorem Zxp:cQ 342 Zae=true:=by kernel_rfl
theorem Zw4:cQ 343 Zld=true:=by kernel_rfl
theorem Zxs:cQ 344 Zmc=true:=by kernel_rfl
theorem Zik:cQ 345 Znm=true:=by kernel_rfl
theorem Zti:cQ 346 Zo3=true:=by kernel_rfl
theorem Zen:cQ 347 Zq0=true:=by kernel_rfl
theorem Zor:cQ 348 Zmq=true:=by kernel_rfl
theorem Zqp:cQ 349 Zki=true:=by kernel_rfl
theorem Zdb:cQ 350 Zkm=true:=by kernel_rfl
theorem Z8z:cQ 351 Zev=true:=by kernel_rfl
theorem Z8l:cQ 352 Zov=true:=by kernel_rfl
theorem Zhs:cQ 353 Zeb=true:=by kernel_rfl
theorem Z8u:cQ 354 Za7=true:=by kernel_rfl
theorem Zqg:cQ 355 Zps=true:=by kernel_rfl
theorem Z8a:cQ 356 Zly=true:=by kernel_rfl
theorem Zsj:cQ 357 Znj=true:=by kernel_rfl
theorem Zj7:cQ 358 Zq6=true:=by kernel_rfl
theorem Z5d:cQ 359 Zic=true:=by kernel_rfl
theorem Zcu:cQ 360 Zca=true:=by kernel_rfl
theorem Zg4:cQ 361 Znl=true:=by kernel_rfl
theorem Zp1:cQ 362 Zmd=true:=by kernel_rfl
theorem Zwf:cQ 363 Zfd=true:=by kernel_rfl
theorem Zwh:cQ 365 Znp=true:=by kernel_rfl
theorem Zuw:cQ 366 Zmy=true:=by kernel_rfl
theorem Zun:cQ 367 Zom=true:=by kernel_rfl
theorem Ztu:cQ 368 Zns=true:=by kernel_rfl
theorem Zvq:cQ 369 Zoc=true:=by kernel_rfl
theorem Zry:cQ 370 Zqu=true:=by kernel_rfl
theorem Zwq:cQ 371 Zfa=true:=by kernel_rfl
theorem Zt1:cQ 372 Zli=true:=by kernel_rfl
theorem Ztt:cQ 373 Zft=true:=by kernel_rfl
theorem Zwx:cQ 374 Zkw=true:=by kernel_rfl
theorem Zsm:cQ 375 Zin=true:=by kernel_rfl
theorem Zvz:cQ 376 Zpy=true:=by kernel_rfl
theorem Zue:cQ 377 Zpf=true:=by kernel_rfl
theorem Zxz:cQ 378 Zk5=true:=by kernel_rfl
theorem Zxi:cQ 379 Zkq=true:=by kernel_rfl
theorem Zw5:cQ 380 Zqk=true:=by kernel_rfl
theorem Zog:cQ 381 Zh9=true:=by kernel_rfl
theorem Zri:cQ 382 Zhj=true:=by kernel_rfl
theorem Zte:cQ 383 Zb0=true:=by kernel_rfl
end
end Go.Av
namespace Go.Av
noncomputable section
open Go.Proofs
set_option maxRecDepth 100000
theorem Zxj:cQ 384 Zqh=true:=by kernel_rfl
theorem Zrk:cQ 385 Zqa=true:=by kernel_rfl
theorem Zqv:cQ 386 Zja=true:=by kernel_rfl
theorem Zv7:cQ 387 Zno=true:=by kernel_rfl
theorem Zvj:cQ 388 Zll=true:=by kernel_rfl
theorem Zsa:cQ 389 Zew=true:=by kernel_rfl
theorem Ztd:cQ 390 Zab=true:=by kernel_rfl
theorem Zm3:cQ 391 Zpn=true:=by kernel_rfl
theorem Ztg:cQ 392 Zj5=true:=by kernel_rfl
theorem Zs2:cQ 393 Zdp=true:=by kernel_rfl
theorem Zxd:cQ 394 Zlz=true:=by kernel_rfl
theorem Zp7:cQ 395 Ze9=true:=by kernel_rfl
theorem Zpx:cQ 396 Zpq=true:=by kernel_rfl
theorem Znn:cQ 397 Znx=true:=by kernel_rfl
theorem Zf8:cQ 398 Zk4=true:=by kernel_rfl
theorem Zkh:cQ 399 Zmg=true:=by kernel_rfl
theorem Zkj:cQ 400 Zqr=true:=by kernel_rfl
theorem Zc7:cQ 401 Ziu=true:=by kernel_rfl
theorem Zh7:cQ 402 Zk7=true:=by kernel_rfl
theorem Zrz:cQ 403 Zky=true:=by kernel_rfl
theorem Zu1:cQ 404 Zku=true:=by kernel_rfl
theorem Zwp:cQ 405 Zb2=true:=by kernel_rfl
theorem Zo8:cQ 406 Zpp=true:=by kernel_rfl
theorem Zvt:cQ 407 Zfj=true:=by kernel_rfl
theorem Zf7:cQ 408 Zgd=true:=by kernel_rfl
theorem Zwe:cQ 409 Zgz=true:=by kernel_rfl
theorem Zv4:cQ 410 Zjb=true:=by kernel_rfl
theorem Zw3:cQ 411 Zcg=true:=by kernel_rfl
theorem Zsq:cQ 412 Zng=true:=by kernel_rfl
theorem Zx5:cQ 413 Zcn=true:=by kernel_rfl
theorem Zr1:cQ 414 Zg7=true:=by kernel_rfl
theorem Ztm:cQ 415 Zgf=true:=by kernel_rfl
theorem Zts:cQ 416 Zci=true:=by kernel_rfl
theorem Zuo:cQ 417 Zco=true:=by kernel_rfl
theorem Zxt:cQ 418 Zi7=true:=by kernel_rfl
theorem Zuv:cQ 419 Zec=true:=by kernel_rfl
theorem Zwc:cQ 420 Zjo=true:=by kernel_rfl
theorem Zsx:cQ 421 Zfh=true:=by kernel_rfl
theorem Zse:cQ 422 Zle=true:=by kernel_rfl
theorem Zr4:cQ 423 Zms=true:=by kernel_rfl
theorem Zss:cQ 424 Ze6=true:=by kernel_rfl
theorem Zw0:cQ 425 Zny=true:=by kernel_rfl
theorem Zw6:cQ 426 Zqi=true:=by kernel_rfl
theorem Zsr:cQ 427 Zeh=true:=by kernel_rfl
theorem Zv2:cQ 428 Zcy=true:=by kernel_rfl
theorem Zr8:cQ 429 Zpc=true:=by kernel_rfl
theorem Zvy:cQ 430 Zne=true:=by kernel_rfl
theorem Zv9:cQ 431 Zgw=true:=by kernel_rfl
theorem Zxx:cQ 432 Zfw=true:=by kernel_rfl
end
end Go.Av
namespace Go.Av
noncomputable section
open Go.Proofs
set_option maxRecDepth 100000
theorem Zv0:cQ 433 Zd1=true:=by kernel_rfl
theorem Ztl:cQ 434 Zb3=true:=by kernel_rfl
theorem Zna:cQ 435 Zq2=true:=by kernel_rfl
theorem Zpm:cQ 436 Zkn=true:=by kernel_rfl
theorem Zbi:cQ 437 Zap=true:=by kernel_rfl
theorem Zox:cQ 438 Zbe=true:=by kernel_rfl
theorem Zxe:cQ 439 Zmv=true:=by kernel_rfl
theorem Zv3:cQ 440 Zaw=true:=by kernel_rfl
theorem Zrt:cQ 441 Zkd=true:=by kernel_rfl
theorem Zxl:cQ 442 Zjs=true:=by kernel_rfl
theorem Zsn:cQ 443 Zd5=true:=by kernel_rfl
theorem Zrw:cQ 444 Zf6=true:=by kernel_rfl
theorem Zvg:cQ 445 Zl1=true:=by kernel_rfl
theorem Zd6:cQ 446 Zfu=true:=by kernel_rfl
theorem Zrv:cQ 448 Zdl=true:=by kernel_rfl
theorem Zwt:cQ 449 Zkg=true:=by kernel_rfl
theorem Zvr:cQ 450 Zp8=true:=by kernel_rfl
theorem Zui:cQ 451 Zpo=true:=by kernel_rfl
theorem Zvc:cQ 452 Zgo=true:=by kernel_rfl
theorem Zx7:cQ 453 Zcs=true:=by kernel_rfl
theorem Zrr:cQ 454 Zjv=true:=by kernel_rfl
theorem Zsh:cQ 455 Zf9=true:=by kernel_rfl
theorem Zxq:cQ 456 Zaz=true:=by kernel_rfl
theorem Zrf:cQ 457 Zbr=true:=by kernel_rfl
theorem Zvb:cQ 458 Zcx=true:=by kernel_rfl
theorem Zru:cQ 459 Zia=true:=by kernel_rfl
theorem Zst:cQ 460 Zer=true:=by kernel_rfl
theorem Zx2:cQ 461 Zju=true:=by kernel_rfl
theorem Zqw:cQ 462 Za6=true:=by kernel_rfl
theorem Zup:cQ 463 Zlv=true:=by kernel_rfl
theorem Zvo:cQ 464 Znq=true:=by kernel_rfl
theorem Zwj:cQ 465 Zkc=true:=by kernel_rfl
theorem Zvl:cQ 466 Zds=true:=by kernel_rfl
theorem Zsp:cQ 467 Zjw=true:=by kernel_rfl
theorem Zt0:cQ 468 Zmf=true:=by kernel_rfl
theorem Zhc:cQ 471 Zln=true:=by kernel_rfl
theorem Zjh:cQ 472 Zl2=true:=by kernel_rfl
theorem Zko:cQ 473 Zmr=true:=by kernel_rfl
theorem Zty:cQ 474 Zob=true:=by kernel_rfl
theorem Zvu:cQ 475 Zla=true:=by kernel_rfl
theorem Zu9:cQ 476 Zhg=true:=by kernel_rfl
theorem Zww:cQ 477 Zfi=true:=by kernel_rfl
theorem Zwn:cQ 478 Zka=true:=by kernel_rfl
theorem Zul:cQ 479 Zbb=true:=by kernel_rfl
theorem Zuj:cQ 480 Zdv=true:=by kernel_rfl
theorem Zwb:cQ 481 Zp5=true:=by kernel_rfl
theorem Zx4:cQ 482 Zh6=true:=by kernel_rfl
theorem Zr2:cQ 483 Zis=true:=by kernel_rfl
theorem Zra:cQ 484 Zj3=true:=by kernel_rfl
end
end Go.Av
namespace Go.Av
noncomputable section
open Go.Proofs
set_option maxRecDepth 100000
theorem Zxy:cQ 485 Zfz=true:=by kernel_rfl
theorem Ztv:cQ 486 Zhy=true:=by kernel_rfl
theorem Zxr:cQ 487 Zo9=true:=by kernel_rfl
theorem Zvw:cQ 488 Zm8=true:=by kernel_rfl
theorem Zw9:cQ 489 Zm6=true:=by kernel_rfl
theorem Ztz:cQ 490 Zey=true:=by kernel_rfl
theorem Zpl:cQ 491 Zgh=true:=by kernel_rfl
theorem Zdm:cQ 492 Zlh=true:=by kernel_rfl
theorem Zlq:cQ 493 Zef=true:=by kernel_rfl
theorem Zkp:cQ 494 Zgs=true:=by kernel_rfl
theorem Z9j:cQ 495 Zkf=true:=by kernel_rfl
theorem Zx0:cQ 496 Zdr=true:=by kernel_rfl
theorem Zro:cQ 497 Zfo=true:=by kernel_rfl
theorem Zsu:cQ 498 Zmi=true:=by kernel_rfl
theorem Zu6:cQ 499 Zhx=true:=by kernel_rfl
theorem Ztn:cQ 500 Zpv=true:=by kernel_rfl
theorem Zs0:cQ 501 Zcw=true:=by kernel_rfl
theorem Zo5:cQ 502 Zb4=true:=by kernel_rfl
theorem Zdk:cQ 503 Zd9=true:=by kernel_rfl
theorem Zs4:cQ 505 Zhf=true:=by kernel_rfl
theorem Zt5:cQ 506 Zh2=true:=by kernel_rfl
theorem Zsi:cQ 507 Zat=true:=by kernel_rfl
theorem Zgl:cQ 508 Zez=true:=by kernel_rfl
theorem Zwu:cQ 509 Zkb=true:=by kernel_rfl
end
end Go.Av

