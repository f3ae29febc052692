/- Part of FromsnBack: the law returns true; no condition. -/
import Derived.Test.YthbmcbacbhfnmaaGreatDoorCode1
import Derived.Test.YthbmcbacbhfnmaaGreatDoorAvChk
import Derived.KernelRfl
import Derived.Test.YthbmcbacbhfnmaaGreatDoorProg
set_option linter.all false
namespace Go.Av
noncomputable section
open Go.Proofs
set_option maxRecDepth 100000
abbrev cQ:=Q5p Tryz.prog
def k3:cQ 3 c3=true:=by kernel_rfl
def k4:cQ 4 c4=true:=by kernel_rfl
def k5:cQ 5 c5=true:=by kernel_rfl
def k6:cQ 6 c6=true:=by kernel_rfl
def k7:cQ 7 c7=true:=by kernel_rfl
def k8:cQ 8 c8=true:=by kernel_rfl
def k9:cQ 9 c9=true:=by kernel_rfl
def k10:cQ 10 c10=true:=by kernel_rfl
def k11:cQ 11 c11=true:=by kernel_rfl
def k12:cQ 12 c12=true:=by kernel_rfl
def k13:cQ 13 c13=true:=by kernel_rfl
def k14:cQ 14 c14=true:=by kernel_rfl
def k15:cQ 15 c15=true:=by kernel_rfl
def k16:cQ 16 c16=true:=by kernel_rfl
def k17:cQ 17 c17=true:=by kernel_rfl
def k18:cQ 18 c18=true:=by kernel_rfl
def k19:cQ 19 c19=true:=by kernel_rfl
def k20:cQ 20 c20=true:=by kernel_rfl
def k21:cQ 21 c21=true:=by kernel_rfl
def k22:cQ 22 c22=true:=by kernel_rfl
def k23:cQ 23 c23=true:=by kernel_rfl
def k24:cQ 24 c24=true:=by kernel_rfl
def k25:cQ 25 c25=true:=by kernel_rfl
def k26:cQ 26 c26=true:=by kernel_rfl
def k27:cQ 27 c27=true:=by kernel_rfl
def k28:cQ 28 c28=true:=by kernel_rfl
def k29:cQ 29 c29=true:=by kernel_rfl
def k30:cQ 30 c30=true:=by kernel_rfl
def k31:cQ 31 c31=true:=by kernel_rfl
def k32:cQ 32 c32=true:=by kernel_rfl
def k33:cQ 33 c33=true:=by kernel_rfl
def k34:cQ 34 c34=true:=by kernel_rfl
def k35:cQ 35 c35=true:=by kernel_rfl
def k36:cQ 36 c36=true:=by kernel_rfl
def k37:cQ 37 c37=true:=by kernel_rfl
def k38:cQ 38 c38=true:=by kernel_rfl
def k39:cQ 39 c39=true:=by kernel_rfl
end
end Go.Av
namespace Go.Av
noncomputable section
open Go.Proofs
set_option maxRecDepth 100000
def k40:cQ 40 c40=true:=by kernel_rfl
def k41:cQ 41 c41=true:=by kernel_rfl
def k42:cQ 42 c42=true:=by kernel_rfl
def k43:cQ 43 c43=true:=by kernel_rfl
def k44:cQ 44 c44=true:=by kernel_rfl
def k45:cQ 45 c45=true:=by kernel_rfl
def k46:cQ 46 c46=true:=by kernel_rfl
def k47:cQ 47 c47=true:=by kernel_rfl
def k48:cQ 48 c48=true:=by kernel_rfl
def k49:cQ 49 c49=true:=by kernel_rfl
def k50:cQ 50 c50=true:=by kernel_rfl
def k51:cQ 51 c51=true:=by kernel_rfl
def k52:cQ 52 c52=true:=by kernel_rfl
def k53:cQ 53 c53=true:=by kernel_rfl
def k54:cQ 54 c54=true:=by kernel_rfl
def k55:cQ 55 c55=true:=by kernel_rfl
def k56:cQ 56 c56=true:=by kernel_rfl
def k57:cQ 57 c57=true:=by kernel_rfl
def k58:cQ 58 c58=true:=by kernel_rfl
def k59:cQ 59 c59=true:=by kernel_rfl
def k60:cQ 60 c60=true:=by kernel_rfl
def k61:cQ 61 c61=true:=by kernel_rfl
def k62:cQ 62 c62=true:=by kernel_rfl
def k63:cQ 63 c63=true:=by kernel_rfl
def k64:cQ 64 c64=true:=by kernel_rfl
def k65:cQ 65 c65=true:=by kernel_rfl
def k66:cQ 66 c66=true:=by kernel_rfl
def k67:cQ 67 c67=true:=by kernel_rfl
def k68:cQ 68 c68=true:=by kernel_rfl
def k69:cQ 69 c69=true:=by kernel_rfl
def k70:cQ 70 c70=true:=by kernel_rfl
def k71:cQ 71 c71=true:=by kernel_rfl
def k72:cQ 72 c72=true:=by kernel_rfl
def k73:cQ 73 c73=true:=by kernel_rfl
def k74:cQ 74 c74=true:=by kernel_rfl
def k75:cQ 75 c75=true:=by kernel_rfl
def k76:cQ 76 c76=true:=by kernel_rfl
end
end Go.Av
namespace Go.Av
noncomputable section
open Go.Proofs
set_option maxRecDepth 100000
def k77:cQ 77 c77=true:=by kernel_rfl
def k78:cQ 78 c78=true:=by kernel_rfl
def k79:cQ 79 c79=true:=by kernel_rfl
def k80:cQ 80 c80=true:=by kernel_rfl
def k81:cQ 81 c81=true:=by kernel_rfl
def k82:cQ 82 c82=true:=by kernel_rfl
def k83:cQ 83 c83=true:=by kernel_rfl
def k84:cQ 84 c84=true:=by kernel_rfl
def k85:cQ 85 c85=true:=by kernel_rfl
def k86:cQ 86 c86=true:=by kernel_rfl
def k87:cQ 87 c87=true:=by kernel_rfl
def k88:cQ 88 c88=true:=by kernel_rfl
def k89:cQ 89 c89=true:=by kernel_rfl
def k90:cQ 90 c90=true:=by kernel_rfl
def k91:cQ 91 c91=true:=by kernel_rfl
def k92:cQ 92 c92=true:=by kernel_rfl
def k93:cQ 93 c93=true:=by kernel_rfl
def k94:cQ 94 c94=true:=by kernel_rfl
def k95:cQ 95 c95=true:=by kernel_rfl
def k96:cQ 96 c96=true:=by kernel_rfl
def k97:cQ 97 c97=true:=by kernel_rfl
def k98:cQ 98 c98=true:=by kernel_rfl
def k99:cQ 99 c99=true:=by kernel_rfl
def Znr:cQ 100 Ziy=true:=by kernel_rfl
def Zgh:cQ 101 Zec=true:=by kernel_rfl
def Zqp:cQ 102 Qpu=true:=by kernel_rfl
def Zpv:cQ 103 Zqb=true:=by kernel_rfl
def Zup:cQ 104 Zhi=true:=by kernel_rfl
def Zqr:cQ 105 Zja=true:=by kernel_rfl
def Zn2:cQ 106 Zdv=true:=by kernel_rfl
def Zdy:cQ 107 Zme=true:=by kernel_rfl
def Zu1:cQ 108 Zle=true:=by kernel_rfl
def Zon:cQ 109 Zhl=true:=by kernel_rfl
def Zi3:cQ 110 Zty=true:=by kernel_rfl
def Zmp:cQ 111 Zst=true:=by kernel_rfl
def Zny:cQ 112 Zes=true:=by kernel_rfl
def Zfp:cQ 113 Zga=true:=by kernel_rfl
def Zsc:cQ 114 Zto=true:=by kernel_rfl
def Zln:cQ 115 Zrm=true:=by kernel_rfl
def Zf9:cQ 116 Zj2=true:=by kernel_rfl
def Zfh:cQ 117 Zpa=true:=by kernel_rfl
def Ziz:cQ 118 Zs7=true:=by kernel_rfl
def Zpi:cQ 119 Zrj=true:=by kernel_rfl
def Zjq:cQ 120 Zgr=true:=by kernel_rfl
def Zfn:cQ 121 Zm0=true:=by kernel_rfl
def Znn:cQ 122 Zsa=true:=by kernel_rfl
def Zq2:cQ 123 Zqh=true:=by kernel_rfl
def Zmn:cQ 124 Zu7=true:=by kernel_rfl
def Y26:cQ 125 Zsh=true:=by kernel_rfl
def Ze2:cQ 126 Zfx=true:=by kernel_rfl
def Zwh:cQ 127 Zqm=true:=by kernel_rfl
def Zyq:cQ 128 Zpc=true:=by kernel_rfl
def Zqa:cQ 129 Zqd=true:=by kernel_rfl
end
end Go.Av
namespace Go.Av
noncomputable section
open Go.Proofs
set_option maxRecDepth 100000
def Zho:cQ 130 Zmr=true:=by kernel_rfl
def Zi6:cQ 131 Znz=true:=by kernel_rfl
def Zdk:cQ 132 Zrf=true:=by kernel_rfl
def Znl:cQ 133 Zmf=true:=by kernel_rfl
def Zuq:cQ 134 Zun=true:=by kernel_rfl
def Zy3:cQ 135 Zeu=true:=by kernel_rfl
def Zve:cQ 136 Zue=true:=by kernel_rfl
def Zyj:cQ 137 Zjv=true:=by kernel_rfl
def Zzb:cQ 138 Zgj=true:=by kernel_rfl
def Zli:cQ 139 Zed=true:=by kernel_rfl
def Zok:cQ 140 Zij=true:=by kernel_rfl
def Zh5:cQ 141 Zmv=true:=by kernel_rfl
def Zs4:cQ 142 Zrg=true:=by kernel_rfl
def Zeo:cQ 143 Zre=true:=by kernel_rfl
def Zoj:cQ 144 Zkz=true:=by kernel_rfl
def Zmh:cQ 145 Zgb=true:=by kernel_rfl
def Zmc:cQ 146 Zjk=true:=by kernel_rfl
def Zzj:cQ 147 Zgd=true:=by kernel_rfl
def Y22:cQ 148 Zqv=true:=by kernel_rfl
def Zw8:cQ 149 Znb=true:=by kernel_rfl
def Y1o:cQ 150 Zr1=true:=by kernel_rfl
def Y3n:cQ 151 Zdi=true:=by kernel_rfl
def Y1x:cQ 152 Zlt=true:=by kernel_rfl
def Zyk:cQ 153 Zma=true:=by kernel_rfl
def Zvt:cQ 154 Zub=true:=by kernel_rfl
def Y0s:cQ 155 Znk=true:=by kernel_rfl
def Zz9:cQ 156 Zlu=true:=by kernel_rfl
def Zy9:cQ 157 Znc=true:=by kernel_rfl
def Y14:cQ 158 Zeg=true:=by kernel_rfl
end
end Go.Av
namespace Go.Av
noncomputable section
open Go.Proofs
set_option maxRecDepth 100000
def Zlf:cQ 159 Zgc=true:=by kernel_rfl
def Zmg:cQ 160 Zlc=true:=by kernel_rfl
def Zzq:cQ 161 Zi8=true:=by kernel_rfl
def Zgf:cQ 162 Zj3=true:=by kernel_rfl
def Zod:cQ 163 Zih=true:=by kernel_rfl
def Zhj:cQ 164 Zn6=true:=by kernel_rfl
def Zsb:cQ 165 Zku=true:=by kernel_rfl
def Zk4:cQ 166 Zmw=true:=by kernel_rfl
def Zl2:cQ 167 Zg6=true:=by kernel_rfl
def Zys:cQ 168 Zlq=true:=by kernel_rfl
def Znu:cQ 169 Ztm=true:=by kernel_rfl
def Zpm:cQ 170 Zo4=true:=by kernel_rfl
def Zir:cQ 171 Zdj=true:=by kernel_rfl
def Zpr:cQ 172 Zsr=true:=by kernel_rfl
def Ze1:cQ 173 Zl7=true:=by kernel_rfl
def Zh1:cQ 174 Zmk=true:=by kernel_rfl
def Zuw:cQ 175 Znv=true:=by kernel_rfl
def Zpp:cQ 176 Zug=true:=by kernel_rfl
def Y0q:cQ 177 Zdl=true:=by kernel_rfl
def Zyz:cQ 178 Zq1=true:=by kernel_rfl
def Zxu:cQ 179 Zex=true:=by kernel_rfl
def Zzw:cQ 180 Znw=true:=by kernel_rfl
def Zx9:cQ 181 Zf5=true:=by kernel_rfl
def Zko:cQ 182 Zjh=true:=by kernel_rfl
def Zhz:cQ 183 Zjm=true:=by kernel_rfl
def Zjf:cQ 184 Zee=true:=by kernel_rfl
def Ztd:cQ 185 Zlp=true:=by kernel_rfl
def Zgk:cQ 186 Zm4=true:=by kernel_rfl
def Zdm:cQ 187 Zif=true:=by kernel_rfl
def Zy5:cQ 188 Zgz=true:=by kernel_rfl
def Y1s:cQ 189 Zmd=true:=by kernel_rfl
def Y0z:cQ 190 Zry=true:=by kernel_rfl
def Y11:cQ 191 Zez=true:=by kernel_rfl
def Zww:cQ 192 Zl6=true:=by kernel_rfl
def Zxb:cQ 193 Zne=true:=by kernel_rfl
def Zgl:cQ 194 Zu2=true:=by kernel_rfl
def Zhn:cQ 195 Zqq=true:=by kernel_rfl
def Zzd:cQ 196 Zo0=true:=by kernel_rfl
def Zzc:cQ 197 Zmj=true:=by kernel_rfl
def Zxh:cQ 198 Zu4=true:=by kernel_rfl
end
end Go.Av
namespace Go.Av
noncomputable section
open Go.Proofs
set_option maxRecDepth 100000
def Y1l:cQ 199 Zfw=true:=by kernel_rfl
def Zz8:cQ 200 Zhh=true:=by kernel_rfl
def Y1h:cQ 201 Zt5=true:=by kernel_rfl
def Zyd:cQ 202 Zhk=true:=by kernel_rfl
def Y0l:cQ 203 Zgw=true:=by kernel_rfl
def Y1w:cQ 204 Zel=true:=by kernel_rfl
def Zxa:cQ 205 Zq8=true:=by kernel_rfl
def Zzz:cQ 206 Zjx=true:=by kernel_rfl
def Y1b:cQ 207 Zdg=true:=by kernel_rfl
def Y25:cQ 208 Zq5=true:=by kernel_rfl
def Y0b:cQ 209 Zhw=true:=by kernel_rfl
def Zi7:cQ 210 Zr3=true:=by kernel_rfl
def Zer:cQ 211 Zk6=true:=by kernel_rfl
def Zl9:cQ 212 Zow=true:=by kernel_rfl
def Zft:cQ 213 Zrq=true:=by kernel_rfl
def Zs0:cQ 214 Zng=true:=by kernel_rfl
def Zq4:cQ 215 Zra=true:=by kernel_rfl
def Zsp:cQ 216 Zp5=true:=by kernel_rfl
def Zj0:cQ 217 Zp7=true:=by kernel_rfl
def Zt4:cQ 218 Zf6=true:=by kernel_rfl
def Zth:cQ 219 Zml=true:=by kernel_rfl
def Zmi:cQ 220 Ztu=true:=by kernel_rfl
def Zet:cQ 221 Znh=true:=by kernel_rfl
def Zh7:cQ 222 Zk0=true:=by kernel_rfl
def Zs5:cQ 223 Zeq=true:=by kernel_rfl
def Zrs:cQ 224 Zn9=true:=by kernel_rfl
def Zuj:cQ 225 Zpw=true:=by kernel_rfl
def Zgx:cQ 226 Zem=true:=by kernel_rfl
def Zjz:cQ 227 Zl4=true:=by kernel_rfl
def Zrd:cQ 228 Zjg=true:=by kernel_rfl
def Ztt:cQ 229 Zro=true:=by kernel_rfl
def Zw9:cQ 230 Zn3=true:=by kernel_rfl
end
end Go.Av
namespace Go.Av
noncomputable section
open Go.Proofs
set_option maxRecDepth 100000
def Zfs:cQ 231 Zop=true:=by kernel_rfl
def Zcj:cQ 232 Zdq=true:=by kernel_rfl
def Zp3:cQ 233 Ze5=true:=by kernel_rfl
def Zqf:cQ 234 Zha=true:=by kernel_rfl
def Zqi:cQ 235 Zp6=true:=by kernel_rfl
def Zwd:cQ 236 Zi1=true:=by kernel_rfl
def Y0e:cQ 237 Zrz=true:=by kernel_rfl
def Zyr:cQ 238 Zmm=true:=by kernel_rfl
def Zvh:cQ 239 Zje=true:=by kernel_rfl
def Zyp:cQ 240 Zts=true:=by kernel_rfl
def Y3j:cQ 241 Zf2=true:=by kernel_rfl
def Y1a:cQ 242 Zta=true:=by kernel_rfl
def Y3l:cQ 243 Ze4=true:=by kernel_rfl
def Zzo:cQ 244 Zfg=true:=by kernel_rfl
def Z0b:cQ 245 Zo5=true:=by kernel_rfl
def Za9:cQ 246 Zdc=true:=by kernel_rfl
def Qxh:cQ 247 Zna=true:=by kernel_rfl
def Za8:cQ 248 Zuf=true:=by kernel_rfl
def Zit:cQ 249 Ziu=true:=by kernel_rfl
def Zdz:cQ 250 Zp2=true:=by kernel_rfl
def Zjd:cQ 251 Zs8=true:=by kernel_rfl
def Zwk:cQ 252 Zog=true:=by kernel_rfl
def Y01:cQ 253 Zji=true:=by kernel_rfl
def Zwq:cQ 254 Zin=true:=by kernel_rfl
def Zvj:cQ 255 Zo2=true:=by kernel_rfl
def Zzi:cQ 256 Znq=true:=by kernel_rfl
def Zx6:cQ 257 Zn7=true:=by kernel_rfl
def Zxi:cQ 258 Zqz=true:=by kernel_rfl
def Zx8:cQ 259 Ze0=true:=by kernel_rfl
def Zx7:cQ 260 Zj1=true:=by kernel_rfl
def Zvo:cQ 261 Zld=true:=by kernel_rfl
def Zya:cQ 262 Zfa=true:=by kernel_rfl
def Zx2:cQ 263 Zs9=true:=by kernel_rfl
def Y04:cQ 264 Zmq=true:=by kernel_rfl
def Y19:cQ 265 Zh6=true:=by kernel_rfl
def Y2t:cQ 266 Zhq=true:=by kernel_rfl
end
end Go.Av
namespace Go.Av
noncomputable section
open Go.Proofs
set_option maxRecDepth 100000
def Y1d:cQ 267 Zu0=true:=by kernel_rfl
def Y3b:cQ 268 Zqs=true:=by kernel_rfl
def Zxe:cQ 269 Zkv=true:=by kernel_rfl
def Y2g:cQ 270 Zkt=true:=by kernel_rfl
def Zph:cQ 271 Zur=true:=by kernel_rfl
def Zpj:cQ 272 Zui=true:=by kernel_rfl
def Zlr:cQ 273 Zt3=true:=by kernel_rfl
def Zyl:cQ 274 Znf=true:=by kernel_rfl
def Zsq:cQ 276 Zeb=true:=by kernel_rfl
def Zlx:cQ 277 Zg1=true:=by kernel_rfl
def Zg5:cQ 278 Zsi=true:=by kernel_rfl
def Zkh:cQ 279 Zni=true:=by kernel_rfl
def Ziw:cQ 280 Zrc=true:=by kernel_rfl
def Zhs:cQ 281 Zhe=true:=by kernel_rfl
def Zqu:cQ 282 Zm6=true:=by kernel_rfl
def Zmx:cQ 283 Ze8=true:=by kernel_rfl
def Zg4:cQ 284 Zqn=true:=by kernel_rfl
def Zkg:cQ 285 Zox=true:=by kernel_rfl
def Zdt:cQ 286 Zol=true:=by kernel_rfl
def Zis:cQ 287 Zjw=true:=by kernel_rfl
def Zoe:cQ 288 Zt8=true:=by kernel_rfl
def Zhf:cQ 289 Zsm=true:=by kernel_rfl
def Zns:cQ 290 Zri=true:=by kernel_rfl
def Zsy:cQ 291 Zkn=true:=by kernel_rfl
def Zr2:cQ 292 Zof=true:=by kernel_rfl
def Zyy:cQ 293 Zfk=true:=by kernel_rfl
def Zxd:cQ 294 Zjn=true:=by kernel_rfl
def Zwy:cQ 295 Zo8=true:=by kernel_rfl
def Y2x:cQ 296 Zk9=true:=by kernel_rfl
def Y20:cQ 297 Zlg=true:=by kernel_rfl
def Zvd:cQ 298 Zo3=true:=by kernel_rfl
def Zz0:cQ 299 Zki=true:=by kernel_rfl
def Y3d:cQ 300 Zly=true:=by kernel_rfl
def Zv1:cQ 301 Ztf=true:=by kernel_rfl
def Y2y:cQ 302 Zdd=true:=by kernel_rfl
def Y0x:cQ 303 Zlj=true:=by kernel_rfl
def Zy6:cQ 304 Zjj=true:=by kernel_rfl
def Zvk:cQ 305 Ztz=true:=by kernel_rfl
def Y1c:cQ 306 Zkw=true:=by kernel_rfl
def Zvi:cQ 307 Zn4=true:=by kernel_rfl
def Zv4:cQ 308 Zhy=true:=by kernel_rfl
def Zzn:cQ 309 Zh0=true:=by kernel_rfl
def Zyt:cQ 310 Zfb=true:=by kernel_rfl
def Zzt:cQ 311 Zk7=true:=by kernel_rfl
def Zuv:cQ 312 Zik=true:=by kernel_rfl
def Zms:cQ 313 Znd=true:=by kernel_rfl
def Y24:cQ 314 Zss=true:=by kernel_rfl
def Zvf:cQ 315 Zrb=true:=by kernel_rfl
def Zyu:cQ 316 Zpu=true:=by kernel_rfl
def Zw2:cQ 317 Zjr=true:=by kernel_rfl
def Y2q:cQ 318 Zud=true:=by kernel_rfl
def Zw1:cQ 319 Zoo=true:=by kernel_rfl
def Y35:cQ 320 Zuh=true:=by kernel_rfl
def Zzm:cQ 321 Zps=true:=by kernel_rfl
def Zzh:cQ 322 Zt9=true:=by kernel_rfl
def Zvv:cQ 323 Zsg=true:=by kernel_rfl
end
end Go.Av
namespace Go.Av
noncomputable section
open Go.Proofs
set_option maxRecDepth 100000
def Zvs:cQ 324 Zea=true:=by kernel_rfl
def Zzr:cQ 325 Zde=true:=by kernel_rfl
def Zxw:cQ 326 Zdr=true:=by kernel_rfl
def Zw3:cQ 327 Zqc=true:=by kernel_rfl
def Zxv:cQ 328 Zoy=true:=by kernel_rfl
def Zyc:cQ 329 Zj6=true:=by kernel_rfl
def Zz3:cQ 330 Zky=true:=by kernel_rfl
def Zza:cQ 331 Zp1=true:=by kernel_rfl
def Y21:cQ 332 Zkc=true:=by kernel_rfl
def Y27:cQ 333 Zsk=true:=by kernel_rfl
def Y0h:cQ 334 Zgg=true:=by kernel_rfl
def Zz1:cQ 335 Zi0=true:=by kernel_rfl
def Y2p:cQ 336 Ze3=true:=by kernel_rfl
def Y0a:cQ 337 Zlv=true:=by kernel_rfl
def Zwi:cQ 338 Zu5=true:=by kernel_rfl
def Zzg:cQ 339 Zh3=true:=by kernel_rfl
def Zv2:cQ 340 Zot=true:=by kernel_rfl
def Zyi:cQ 341 Zg9=true:=by kernel_rfl
def Zkm:cQ 342 Zq3=true:=by kernel_rfl
def Qpx:cQ 343 Ztl=true:=by kernel_rfl
def Zk5:cQ 344 Zdn=true:=by kernel_rfl
def Zm3:cQ 345 Zen=true:=by kernel_rfl
def Zn1:cQ 346 Zpo=true:=by kernel_rfl
def Zm5:cQ 347 Zmz=true:=by kernel_rfl
def Zig:cQ 348 Zi5=true:=by kernel_rfl
def Zmb:cQ 349 Zjs=true:=by kernel_rfl
def Zfl:cQ 350 Zhr=true:=by kernel_rfl
def Zpq:cQ 351 Zkp=true:=by kernel_rfl
def Ztq:cQ 352 Zeh=true:=by kernel_rfl
def Zrn:cQ 353 Zt6=true:=by kernel_rfl
def Zr0:cQ 354 Zgm=true:=by kernel_rfl
def Zjy:cQ 355 Zll=true:=by kernel_rfl
def Zrl:cQ 356 Zju=true:=by kernel_rfl
def Zov:cQ 357 Zim=true:=by kernel_rfl
def Zjc:cQ 358 Zno=true:=by kernel_rfl
def Zf4:cQ 359 Zpn=true:=by kernel_rfl
def Zwm:cQ 360 Ztk=true:=by kernel_rfl
def Zvb:cQ 361 Zm7=true:=by kernel_rfl
def Y28:cQ 362 Zpl=true:=by kernel_rfl
def Zyb:cQ 363 Zfu=true:=by kernel_rfl
def Y0v:cQ 364 Zl5=true:=by kernel_rfl
def Zxf:cQ 365 Zgt=true:=by kernel_rfl
def Y1p:cQ 366 Zom=true:=by kernel_rfl
def Zw0:cQ 367 Zi2=true:=by kernel_rfl
def Y07:cQ 368 Zob=true:=by kernel_rfl
def Zvy:cQ 369 Ztc=true:=by kernel_rfl
def Y0o:cQ 370 Zsf=true:=by kernel_rfl
end
end Go.Av
namespace Go.Av
noncomputable section
open Go.Proofs
set_option maxRecDepth 100000
def Zyx:cQ 371 Zt1=true:=by kernel_rfl
def Y0n:cQ 372 Zqw=true:=by kernel_rfl
def Zyo:cQ 373 Znm=true:=by kernel_rfl
def Zxr:cQ 374 Zgo=true:=by kernel_rfl
def Y1y:cQ 375 Zrk=true:=by kernel_rfl
def Y1g:cQ 376 Zsl=true:=by kernel_rfl
def Y2w:cQ 377 Zuo=true:=by kernel_rfl
def Y2a:cQ 378 Zkf=true:=by kernel_rfl
def Zzs:cQ 379 Zql=true:=by kernel_rfl
def Y2e:cQ 380 Zm2=true:=by kernel_rfl
def Zw5:cQ 381 Zfc=true:=by kernel_rfl
def Zx0:cQ 382 Zqk=true:=by kernel_rfl
def Zvp:cQ 383 Zgv=true:=by kernel_rfl
def Zwl:cQ 384 Zk8=true:=by kernel_rfl
def Zxq:cQ 385 Zg8=true:=by kernel_rfl
def Zws:cQ 386 Zhc=true:=by kernel_rfl
def Zwo:cQ 387 Zhd=true:=by kernel_rfl
def Y0c:cQ 388 Zru=true:=by kernel_rfl
def Y2u:cQ 389 Zdf=true:=by kernel_rfl
def Zux:cQ 390 Zj5=true:=by kernel_rfl
def Zxj:cQ 391 Zoi=true:=by kernel_rfl
def Y2k:cQ 392 Zfy=true:=by kernel_rfl
def Zyg:cQ 393 Zht=true:=by kernel_rfl
def Zvw:cQ 394 Zo1=true:=by kernel_rfl
def Zwu:cQ 395 Zs1=true:=by kernel_rfl
def Z1y:cQ 397 Zhx=true:=by kernel_rfl
def Zbx:cQ 398 Zhg=true:=by kernel_rfl
def Ztp:cQ 399 Zm9=true:=by kernel_rfl
def Zvq:cQ 400 Zhb=true:=by kernel_rfl
def Zb4:cQ 401 Zk3=true:=by kernel_rfl
def Z5b:cQ 402 Zjp=true:=by kernel_rfl
def Zt2:cQ 403 Zm8=true:=by kernel_rfl
def Zu9:cQ 404 Zfm=true:=by kernel_rfl
def Zwf:cQ 405 Zr6=true:=by kernel_rfl
def Y18:cQ 406 Zix=true:=by kernel_rfl
def Zx3:cQ 407 Zlh=true:=by kernel_rfl
def Zxx:cQ 408 Zds=true:=by kernel_rfl
def Y00:cQ 409 Zl0=true:=by kernel_rfl
def Y23:cQ 410 Zfz=true:=by kernel_rfl
def Zv9:cQ 411 Ziq=true:=by kernel_rfl
def Zw4:cQ 412 Zhu=true:=by kernel_rfl
def Y0g:cQ 413 Zep=true:=by kernel_rfl
def Zxc:cQ 414 Zr9=true:=by kernel_rfl
def Y0u:cQ 415 Zq9=true:=by kernel_rfl
def Y0k:cQ 416 Zoh=true:=by kernel_rfl
end
end Go.Av
namespace Go.Av
noncomputable section
open Go.Proofs
set_option maxRecDepth 100000
def Y16:cQ 417 Zsw=true:=by kernel_rfl
def Z1p:cQ 418 Zmo=true:=by kernel_rfl
def Zvc:cQ 419 Zl3=true:=by kernel_rfl
def Zuy:cQ 420 Zkb=true:=by kernel_rfl
def Y3f:cQ 421 Ziv=true:=by kernel_rfl
def Y06:cQ 422 Zgs=true:=by kernel_rfl
def Y1z:cQ 423 Zqj=true:=by kernel_rfl
def Y17:cQ 424 Ztn=true:=by kernel_rfl
def Z7v:cQ 425 Zgu=true:=by kernel_rfl
def Qw4:cQ 426 Zlo=true:=by kernel_rfl
def Zxg:cQ 427 Ze6=true:=by kernel_rfl
def Zwc:cQ 428 Zmt=true:=by kernel_rfl
def Y2j:cQ 429 Zqt=true:=by kernel_rfl
def Y38:cQ 430 Ztx=true:=by kernel_rfl
def Zvg:cQ 431 Ztr=true:=by kernel_rfl
def Y1k:cQ 432 Zei=true:=by kernel_rfl
def Zwe:cQ 433 Zge=true:=by kernel_rfl
def Y2o:cQ 434 Zpx=true:=by kernel_rfl
def Zwx:cQ 435 Zdp=true:=by kernel_rfl
def Y3k:cQ 436 Zf1=true:=by kernel_rfl
def Zye:cQ 437 Zq7=true:=by kernel_rfl
def Zwa:cQ 438 Zrv=true:=by kernel_rfl
def Y37:cQ 439 Zf8=true:=by kernel_rfl
def Y0r:cQ 440 Zh8=true:=by kernel_rfl
def Y2r:cQ 441 Zkr=true:=by kernel_rfl
def Y1f:cQ 442 Zuc=true:=by kernel_rfl
def Y2m:cQ 443 Zkx=true:=by kernel_rfl
def Zy2:cQ 444 Zgq=true:=by kernel_rfl
def Y0y:cQ 445 Zsz=true:=by kernel_rfl
def Zx1:cQ 446 Zii=true:=by kernel_rfl
def Y1i:cQ 447 Zoq=true:=by kernel_rfl
def Zwg:cQ 448 Zi4=true:=by kernel_rfl
def Qs9:cQ 449 Ztj=true:=by kernel_rfl
def Zkl:cQ 450 Zg7=true:=by kernel_rfl
def Y3g:cQ 451 Zjo=true:=by kernel_rfl
def Y0f:cQ 452 Zsu=true:=by kernel_rfl
def Y29:cQ 453 Ztb=true:=by kernel_rfl
def Y15:cQ 454 Ze9=true:=by kernel_rfl
def Zwj:cQ 455 Zid=true:=by kernel_rfl
def Zvm:cQ 456 Zr7=true:=by kernel_rfl
def Y2l:cQ 457 Zl8=true:=by kernel_rfl
def Zxk:cQ 458 Zil=true:=by kernel_rfl
def Y0j:cQ 459 Zks=true:=by kernel_rfl
def Y36:cQ 460 Zhp=true:=by kernel_rfl
end
end Go.Av
namespace Go.Av
noncomputable section
open Go.Proofs
set_option maxRecDepth 100000
def Zxn:cQ 461 Zsd=true:=by kernel_rfl
def Y2z:cQ 462 Zej=true:=by kernel_rfl
def Y1t:cQ 463 Zjt=true:=by kernel_rfl
def Zwt:cQ 464 Zo7=true:=by kernel_rfl
def Zyn:cQ 465 Zp8=true:=by kernel_rfl
def Zy7:cQ 466 Zs3=true:=by kernel_rfl
def Zv7:cQ 467 Zsj=true:=by kernel_rfl
def Y10:cQ 468 Zum=true:=by kernel_rfl
def Zvu:cQ 469 Zip=true:=by kernel_rfl
def Y02:cQ 470 Zf0=true:=by kernel_rfl
def Y0d:cQ 471 Zdo=true:=by kernel_rfl
def Y32:cQ 472 Zqg=true:=by kernel_rfl
def Zv8:cQ 473 Zj4=true:=by kernel_rfl
def Y3i:cQ 474 Zke=true:=by kernel_rfl
def Y39:cQ 475 Zfo=true:=by kernel_rfl
def Zv3:cQ 476 Zj9=true:=by kernel_rfl
def Zwz:cQ 477 Zsn=true:=by kernel_rfl
def Y0p:cQ 478 Zlw=true:=by kernel_rfl
def Zvx:cQ 479 Zie=true:=by kernel_rfl
def Zw7:cQ 480 Zqx=true:=by kernel_rfl
def Y2f:cQ 481 Zsx=true:=by kernel_rfl
def Zzu:cQ 482 Zs6=true:=by kernel_rfl
def Y3c:cQ 483 Zpd=true:=by kernel_rfl
def Y05:cQ 484 Zia=true:=by kernel_rfl
def Y33:cQ 485 Zlz=true:=by kernel_rfl
def Zp0:cQ 486 Zl1=true:=by kernel_rfl
def Zfe:cQ 487 Zoa=true:=by kernel_rfl
def Zio:cQ 488 Zlm=true:=by kernel_rfl
def Zy4:cQ 489 Zg3=true:=by kernel_rfl
def Zus:cQ 490 Zff=true:=by kernel_rfl
def Y34:cQ 491 Zrp=true:=by kernel_rfl
def Y2s:cQ 492 Zek=true:=by kernel_rfl
def Y03:cQ 493 Zkq=true:=by kernel_rfl
def Zwr:cQ 494 Zpz=true:=by kernel_rfl
def Y13:cQ 495 Zgi=true:=by kernel_rfl
def Zxm:cQ 496 Zoc=true:=by kernel_rfl
def Y1e:cQ 497 Zt7=true:=by kernel_rfl
def Y2c:cQ 498 Zn5=true:=by kernel_rfl
def Zv5:cQ 499 Zk1=true:=by kernel_rfl
def Y3a:cQ 500 Znp=true:=by kernel_rfl
def Zzx:cQ 501 Zf7=true:=by kernel_rfl
def Y30:cQ 502 Zmu=true:=by kernel_rfl
def Zvz:cQ 503 Zla=true:=by kernel_rfl
def Y0i:cQ 504 Zls=true:=by kernel_rfl
def Y2b:cQ 505 Zm1=true:=by kernel_rfl
def Zv0:cQ 506 Zj7=true:=by kernel_rfl
def Zz6:cQ 507 Zrt=true:=by kernel_rfl
def Y0w:cQ 508 Zrx=true:=by kernel_rfl
end
end Go.Av
namespace Go.Av
noncomputable section
open Go.Proofs
set_option maxRecDepth 100000
def Zxs:cQ 509 Zor=true:=by kernel_rfl
def Y12:cQ 510 Zrw=true:=by kernel_rfl
def Zva:cQ 511 Zqy=true:=by kernel_rfl
def Zw6:cQ 512 Zoz=true:=by kernel_rfl
def Y1q:cQ 513 Zr5=true:=by kernel_rfl
def Zdh:cQ 514 Zua=true:=by kernel_rfl
def Zgn:cQ 515 Zef=true:=by kernel_rfl
def Zsv:cQ 517 Zpe=true:=by kernel_rfl
def Zze:cQ 518 Zr4=true:=by kernel_rfl
def Y1u:cQ 519 Zi9=true:=by kernel_rfl
def Y1j:cQ 520 Zt0=true:=by kernel_rfl
def Zyw:cQ 521 Zk2=true:=by kernel_rfl
def Zxp:cQ 522 Zqo=true:=by kernel_rfl
def Zy8:cQ 523 Zr8=true:=by kernel_rfl
def Zxy:cQ 524 Zou=true:=by kernel_rfl
def Y2d:cQ 525 Zgy=true:=by kernel_rfl
def Zy1:cQ 526 Zh9=true:=by kernel_rfl
def Zzl:cQ 527 Zfd=true:=by kernel_rfl
def Y31:cQ 528 Zpb=true:=by kernel_rfl
def Zyv:cQ 529 Zq0=true:=by kernel_rfl
def Zx5:cQ 530 Zn8=true:=by kernel_rfl
def Zxl:cQ 531 Zrr=true:=by kernel_rfl
def Zy0:cQ 532 Ze7=true:=by kernel_rfl
def Zwp:cQ 533 Znx=true:=by kernel_rfl
def Y1n:cQ 534 Zuk=true:=by kernel_rfl
def Zzy:cQ 535 Zdu=true:=by kernel_rfl
def Zg0:cQ 536 Zu3=true:=by kernel_rfl
def Zz5:cQ 537 Zpf=true:=by kernel_rfl
def Zzp:cQ 540 Zu6=true:=by kernel_rfl
def Zuz:cQ 541 Ztg=true:=by kernel_rfl
def Zz2:cQ 542 Zpg=true:=by kernel_rfl
def Zyh:cQ 543 Zgp=true:=by kernel_rfl
def Zuu:cQ 544 Zti=true:=by kernel_rfl
def Zvn:cQ 545 Zrh=true:=by kernel_rfl
def Y2n:cQ 546 Zh4=true:=by kernel_rfl
def Zxo:cQ 547 Zf3=true:=by kernel_rfl
def Zzk:cQ 548 Zpy=true:=by kernel_rfl
def Zut:cQ 566 Zka=true:=by kernel_rfl
def Y1m:cQ 569 Zfv=true:=by kernel_rfl
def Zz7:cQ 570 Zq6=true:=by kernel_rfl
def Zv6:cQ 571 Zqe=true:=by kernel_rfl
def Zbs:cQ 572 Zdw=true:=by kernel_rfl
def Zso:cQ 573 Zkd=true:=by kernel_rfl
def Zey:cQ 574 Zp4=true:=by kernel_rfl
def Zpk:cQ 575 Ztw=true:=by kernel_rfl
def Zo9:cQ 576 Zew=true:=by kernel_rfl
def Zbm:cQ 577 Znj=true:=by kernel_rfl
def Zbf:cQ 578 Zdx=true:=by kernel_rfl
end
end Go.Av
namespace Go.Av
noncomputable section
open Go.Proofs
set_option maxRecDepth 100000
def Zcq:cQ 579 Zlk=true:=by kernel_rfl
def Zb5:cQ 580 Zib=true:=by kernel_rfl
def Zfq:cQ 581 Zfj=true:=by kernel_rfl
def Zul:cQ 582 Zmy=true:=by kernel_rfl
def Y08:cQ 583 Zu8=true:=by kernel_rfl
end
end Go.Av

