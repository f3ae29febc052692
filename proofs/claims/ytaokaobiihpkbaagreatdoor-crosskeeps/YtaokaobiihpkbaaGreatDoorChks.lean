/- Part of the proof of CrossKeeps: for every input the law returns true; no condition. -/
import Derived.Test.YtaokaobiihpkbaaGreatDoorCode1
import Derived.Test.YtaokaobiihpkbaaGreatDoorAvChk
import Derived.KernelRfl
import Derived.Test.YtaokaobiihpkbaaGreatDoorProg
set_option linter.all false
namespace Go.Av
noncomputable section
open Go.Proofs
set_option maxRecDepth 100000
abbrev cQ:=Q29 Tryz.prog
theorem k5:cQ 5 c5=true:=by kernel_rfl
theorem k6:cQ 6 c6=true:=by kernel_rfl
theorem k7:cQ 7 c7=true:=by kernel_rfl
theorem k8:cQ 8 c8=true:=by kernel_rfl
theorem k9:cQ 9 c9=true:=by kernel_rfl
theorem k10:cQ 10 c10=true:=by kernel_rfl
theorem k12:cQ 12 c12=true:=by kernel_rfl
theorem k15:cQ 15 c15=true:=by kernel_rfl
theorem k16:cQ 16 c16=true:=by kernel_rfl
theorem k17:cQ 17 c17=true:=by kernel_rfl
theorem k18:cQ 18 c18=true:=by kernel_rfl
theorem k19:cQ 19 c19=true:=by kernel_rfl
theorem k20:cQ 20 c20=true:=by kernel_rfl
theorem k21:cQ 21 c21=true:=by kernel_rfl
theorem k22:cQ 22 c22=true:=by kernel_rfl
theorem k23:cQ 23 c23=true:=by kernel_rfl
theorem k24:cQ 24 c24=true:=by kernel_rfl
theorem k25:cQ 25 c25=true:=by kernel_rfl
theorem k26:cQ 26 c26=true:=by kernel_rfl
theorem k27:cQ 27 c27=true:=by kernel_rfl
theorem k28:cQ 28 c28=true:=by kernel_rfl
theorem k29:cQ 29 c29=true:=by kernel_rfl
theorem k30:cQ 30 c30=true:=by kernel_rfl
theorem k31:cQ 31 c31=true:=by kernel_rfl
end
end Go.Av
namespace Go.Av
noncomputable section
open Go.Proofs
set_option maxRecDepth 100000
theorem k32:cQ 32 c32=true:=by kernel_rfl
theorem k33:cQ 33 c33=true:=by kernel_rfl
theorem k34:cQ 34 c34=true:=by kernel_rfl
theorem k35:cQ 35 c35=true:=by kernel_rfl
theorem k36:cQ 36 c36=true:=by kernel_rfl
theorem k38:cQ 38 c38=true:=by kernel_rfl
theorem k39:cQ 39 c39=true:=by kernel_rfl
theorem k40:cQ 40 c40=true:=by kernel_rfl
theorem k41:cQ 41 c41=true:=by kernel_rfl
theorem k42:cQ 42 c42=true:=by kernel_rfl
theorem k43:cQ 43 c43=true:=by kernel_rfl
theorem k44:cQ 44 c44=true:=by kernel_rfl
theorem k45:cQ 45 c45=true:=by kernel_rfl
theorem k46:cQ 46 c46=true:=by kernel_rfl
theorem k47:cQ 47 c47=true:=by kernel_rfl
theorem k48:cQ 48 c48=true:=by kernel_rfl
theorem k49:cQ 49 c49=true:=by kernel_rfl
theorem k50:cQ 50 c50=true:=by kernel_rfl
theorem k51:cQ 51 c51=true:=by kernel_rfl
theorem k52:cQ 52 c52=true:=by kernel_rfl
theorem k53:cQ 53 c53=true:=by kernel_rfl
theorem k54:cQ 54 c54=true:=by kernel_rfl
theorem k55:cQ 55 c55=true:=by kernel_rfl
theorem k56:cQ 56 c56=true:=by kernel_rfl
theorem k57:cQ 57 c57=true:=by kernel_rfl
theorem k58:cQ 58 c58=true:=by kernel_rfl
theorem k59:cQ 59 c59=true:=by kernel_rfl
theorem k60:cQ 60 c60=true:=by kernel_rfl
theorem k61:cQ 61 c61=true:=by kernel_rfl
theorem k62:cQ 62 c62=true:=by kernel_rfl
theorem k63:cQ 63 c63=true:=by kernel_rfl
theorem k64:cQ 64 c64=true:=by kernel_rfl
theorem k65:cQ 65 c65=true:=by kernel_rfl
theorem k66:cQ 66 c66=true:=by kernel_rfl
theorem k67:cQ 67 c67=true:=by kernel_rfl
theorem k68:cQ 68 c68=true:=by kernel_rfl
theorem k69:cQ 69 c69=true:=by kernel_rfl
theorem k70:cQ 70 c70=true:=by kernel_rfl
theorem k71:cQ 71 c71=true:=by kernel_rfl
theorem k72:cQ 72 c72=true:=by kernel_rfl
theorem k73:cQ 73 c73=true:=by kernel_rfl
theorem k74:cQ 74 c74=true:=by kernel_rfl
theorem k75:cQ 75 c75=true:=by kernel_rfl
theorem k76:cQ 76 c76=true:=by kernel_rfl
theorem k77:cQ 77 c77=true:=by kernel_rfl
theorem k78:cQ 78 c78=true:=by kernel_rfl
theorem k80:cQ 80 c80=true:=by kernel_rfl
theorem k81:cQ 81 c81=true:=by kernel_rfl
theorem k82:cQ 82 c82=true:=by kernel_rfl
theorem k83:cQ 83 c83=true:=by kernel_rfl
theorem k84:cQ 84 c84=true:=by kernel_rfl
theorem k85:cQ 85 c85=true:=by kernel_rfl
theorem k86:cQ 86 c86=true:=by kernel_rfl
end
end Go.Av
namespace Go.Av
noncomputable section
open Go.Proofs
set_option maxRecDepth 100000
theorem k87:cQ 87 c87=true:=by kernel_rfl
theorem k88:cQ 88 c88=true:=by kernel_rfl
theorem k89:cQ 89 c89=true:=by kernel_rfl
theorem k90:cQ 90 c90=true:=by kernel_rfl
theorem k91:cQ 91 c91=true:=by kernel_rfl
theorem k92:cQ 92 c92=true:=by kernel_rfl
theorem k93:cQ 93 c93=true:=by kernel_rfl
theorem k94:cQ 94 c94=true:=by kernel_rfl
theorem k95:cQ 95 c95=true:=by kernel_rfl
theorem k96:cQ 96 c96=true:=by kernel_rfl
theorem k97:cQ 97 c97=true:=by kernel_rfl
theorem k98:cQ 98 c98=true:=by kernel_rfl
theorem k99:cQ 99 c99=true:=by kernel_rfl
theorem Z7t:cQ 100 Zdb=true:=by kernel_rfl
theorem Zfl:cQ 101 Zcq=true:=by kernel_rfl
theorem Z1e:cQ 102 Z7q=true:=by kernel_rfl
theorem Z1l:cQ 103 Zbw=true:=by kernel_rfl
theorem Zc5:cQ 104 Z7b=true:=by kernel_rfl
theorem Zd4:cQ 105 Z36=true:=by kernel_rfl
theorem Zey:cQ 106 Zfm=true:=by kernel_rfl
theorem Zcc:cQ 107 Z7j=true:=by kernel_rfl
theorem Z8h:cQ 108 Z46=true:=by kernel_rfl
theorem Za0:cQ 109 Zci=true:=by kernel_rfl
theorem Zd7:cQ 110 Zdk=true:=by kernel_rfl
theorem Zd5:cQ 111 Zce=true:=by kernel_rfl
theorem Zc0:cQ 112 Zbk=true:=by kernel_rfl
theorem Za3:cQ 113 Zd1=true:=by kernel_rfl
theorem Zdc:cQ 114 Z5c=true:=by kernel_rfl
theorem Zk2:cQ 115 Zem=true:=by kernel_rfl
theorem Zab:cQ 116 Zeb=true:=by kernel_rfl
theorem Zi4:cQ 117 Zec=true:=by kernel_rfl
theorem Z53:cQ 118 Zd8=true:=by kernel_rfl
theorem Zdi:cQ 119 Za2=true:=by kernel_rfl
theorem Z6d:cQ 120 Zf2=true:=by kernel_rfl
theorem Z89:cQ 121 Zfb=true:=by kernel_rfl
theorem Z77:cQ 122 Z4e=true:=by kernel_rfl
theorem Zf3:cQ 123 Z61=true:=by kernel_rfl
theorem Zcn:cQ 124 Z4d=true:=by kernel_rfl
theorem Z7r:cQ 125 Z86=true:=by kernel_rfl
theorem Zlv:cQ 126 Zb4=true:=by kernel_rfl
theorem Zef:cQ 127 Zaq=true:=by kernel_rfl
end
end Go.Av
namespace Go.Av
noncomputable section
open Go.Proofs
set_option maxRecDepth 100000
theorem Z1u:cQ 128 Z8p=true:=by kernel_rfl
theorem Zfd:cQ 129 Z4h=true:=by kernel_rfl
theorem Zei:cQ 130 Z8c=true:=by kernel_rfl
theorem Z5h:cQ 131 Z41=true:=by kernel_rfl
theorem Zau:cQ 132 Z6o=true:=by kernel_rfl
theorem Z7f:cQ 133 Z6y=true:=by kernel_rfl
theorem Z3r:cQ 134 Zdg=true:=by kernel_rfl
theorem Zmu:cQ 135 Zbg=true:=by kernel_rfl
theorem Z7z:cQ 136 Z79=true:=by kernel_rfl
theorem Qu5:cQ 137 Z6r=true:=by kernel_rfl
theorem Qzb:cQ 138 Z9a=true:=by kernel_rfl
theorem Qrz:cQ 139 Zak=true:=by kernel_rfl
theorem Qzz:cQ 140 Z7o=true:=by kernel_rfl
theorem Zdp:cQ 141 Zap=true:=by kernel_rfl
theorem Zfc:cQ 142 Z88=true:=by kernel_rfl
theorem Z7g:cQ 143 Z5q=true:=by kernel_rfl
theorem Zf6:cQ 144 Z3w=true:=by kernel_rfl
theorem Zej:cQ 145 Z8d=true:=by kernel_rfl
theorem Z5k:cQ 146 Z6q=true:=by kernel_rfl
theorem Zbd:cQ 147 Ze6=true:=by kernel_rfl
theorem Z4c:cQ 148 Z3s=true:=by kernel_rfl
theorem Zn0:cQ 149 Zdx=true:=by kernel_rfl
theorem Zl5:cQ 150 Z8n=true:=by kernel_rfl
theorem Zgr:cQ 151 Zfh=true:=by kernel_rfl
theorem Zjs:cQ 152 Z47=true:=by kernel_rfl
theorem Z7s:cQ 153 Z69=true:=by kernel_rfl
theorem Zev:cQ 154 Zaj=true:=by kernel_rfl
theorem Z5m:cQ 155 Z8x=true:=by kernel_rfl
theorem Z3z:cQ 156 Z3a=true:=by kernel_rfl
theorem Ze5:cQ 157 Z7k=true:=by kernel_rfl
theorem Z5z:cQ 158 Ze9=true:=by kernel_rfl
theorem Z6b:cQ 159 Zc8=true:=by kernel_rfl
theorem Zcd:cQ 160 Z39=true:=by kernel_rfl
theorem Z5d:cQ 161 Z8a=true:=by kernel_rfl
theorem Z37:cQ 162 Z7x=true:=by kernel_rfl
theorem Z3g:cQ 163 Z4b=true:=by kernel_rfl
theorem Zdw:cQ 164 Z8z=true:=by kernel_rfl
theorem Zcz:cQ 165 Z4m=true:=by kernel_rfl
theorem Zbb:cQ 166 Zch=true:=by kernel_rfl
theorem Z6g:cQ 167 Zb0=true:=by kernel_rfl
theorem Z4a:cQ 168 Z3d=true:=by kernel_rfl
theorem Z3u:cQ 169 Z60=true:=by kernel_rfl
theorem Z7c:cQ 170 Z7a=true:=by kernel_rfl
theorem Zdr:cQ 171 Zay=true:=by kernel_rfl
theorem Zlf:cQ 172 Zfs=true:=by kernel_rfl
theorem Zj3:cQ 173 Z7u=true:=by kernel_rfl
theorem Zhf:cQ 174 Z94=true:=by kernel_rfl
end
end Go.Av
namespace Go.Av
noncomputable section
open Go.Proofs
set_option maxRecDepth 100000
theorem Zjk:cQ 175 Za6=true:=by kernel_rfl
theorem Zjr:cQ 176 Z8m=true:=by kernel_rfl
theorem Zh9:cQ 177 Za8=true:=by kernel_rfl
theorem Zj1:cQ 178 Za5=true:=by kernel_rfl
theorem Zfx:cQ 179 Z9o=true:=by kernel_rfl
theorem Z62:cQ 180 Z6z=true:=by kernel_rfl
theorem Zea:cQ 181 Z6f=true:=by kernel_rfl
theorem Zdd:cQ 182 Z5b=true:=by kernel_rfl
theorem Zax:cQ 183 Zcv=true:=by kernel_rfl
theorem Zk8:cQ 184 Z9z=true:=by kernel_rfl
theorem Zn5:cQ 186 Zac=true:=by kernel_rfl
theorem Zhp:cQ 187 Zfr=true:=by kernel_rfl
theorem Zl9:cQ 188 Z98=true:=by kernel_rfl
theorem Zio:cQ 189 Zaw=true:=by kernel_rfl
theorem Zjm:cQ 190 Z9p=true:=by kernel_rfl
theorem Zm4:cQ 191 Zcf=true:=by kernel_rfl
theorem Zi0:cQ 192 Z83=true:=by kernel_rfl
theorem Zim:cQ 193 Zco=true:=by kernel_rfl
theorem Z81:cQ 194 Zfu=true:=by kernel_rfl
theorem Zam:cQ 195 Ze0=true:=by kernel_rfl
theorem Zb9:cQ 196 Ze2=true:=by kernel_rfl
theorem Zdh:cQ 197 Zad=true:=by kernel_rfl
theorem Z5a:cQ 198 Z7y=true:=by kernel_rfl
theorem Zmj:cQ 199 Zb2=true:=by kernel_rfl
theorem Znf:cQ 200 Z65=true:=by kernel_rfl
theorem Zmf:cQ 201 Zdz=true:=by kernel_rfl
theorem Zg4:cQ 202 Zba=true:=by kernel_rfl
theorem Zhl:cQ 203 Zct=true:=by kernel_rfl
theorem Zg5:cQ 204 Z51=true:=by kernel_rfl
theorem Zgu:cQ 205 Zcm=true:=by kernel_rfl
theorem Zid:cQ 206 Zd9=true:=by kernel_rfl
theorem Z8o:cQ 207 Z78=true:=by kernel_rfl
theorem Zlh:cQ 208 Zb8=true:=by kernel_rfl
theorem Zlb:cQ 209 Z9g=true:=by kernel_rfl
theorem Zjb:cQ 210 Zbq=true:=by kernel_rfl
theorem Zia:cQ 211 Z9f=true:=by kernel_rfl
theorem Zms:cQ 212 Z7l=true:=by kernel_rfl
theorem Zmx:cQ 213 Z40=true:=by kernel_rfl
theorem Zmm:cQ 214 Z7v=true:=by kernel_rfl
theorem Zn8:cQ 215 Z4f=true:=by kernel_rfl
end
end Go.Av
namespace Go.Av
noncomputable section
open Go.Proofs
set_option maxRecDepth 100000
theorem Zi5:cQ 216 Z3x=true:=by kernel_rfl
theorem Z42:cQ 217 Zck=true:=by kernel_rfl
theorem Z7h:cQ 218 Z58=true:=by kernel_rfl
theorem Z5u:cQ 219 Z4o=true:=by kernel_rfl
theorem Z66:cQ 220 Z73=true:=by kernel_rfl
theorem Z4g:cQ 221 Zfq=true:=by kernel_rfl
theorem Z6m:cQ 222 Zbu=true:=by kernel_rfl
theorem Zfp:cQ 223 Z9c=true:=by kernel_rfl
theorem Zae:cQ 224 Zdy=true:=by kernel_rfl
theorem Zmp:cQ 225 Z6v=true:=by kernel_rfl
theorem Zh6:cQ 226 Zff=true:=by kernel_rfl
theorem Zg8:cQ 228 Zb5=true:=by kernel_rfl
theorem Zm8:cQ 229 Z8e=true:=by kernel_rfl
theorem Zhy:cQ 230 Zcb=true:=by kernel_rfl
theorem Zik:cQ 231 Z6a=true:=by kernel_rfl
theorem Zjz:cQ 232 Z75=true:=by kernel_rfl
theorem Zmc:cQ 233 Z8y=true:=by kernel_rfl
theorem Zk5:cQ 234 Zel=true:=by kernel_rfl
theorem Zmy:cQ 235 Z4i=true:=by kernel_rfl
theorem Zmr:cQ 236 Z70=true:=by kernel_rfl
theorem Zhh:cQ 237 Z6h=true:=by kernel_rfl
theorem Zjp:cQ 238 Z9v=true:=by kernel_rfl
theorem Zgj:cQ 239 Z3v=true:=by kernel_rfl
theorem Zl4:cQ 240 Z8r=true:=by kernel_rfl
theorem Zmh:cQ 241 Zas=true:=by kernel_rfl
theorem Zn3:cQ 242 Z9l=true:=by kernel_rfl
theorem Zkc:cQ 243 Z4q=true:=by kernel_rfl
theorem Zn6:cQ 244 Zdn=true:=by kernel_rfl
theorem Zj7:cQ 245 Z6l=true:=by kernel_rfl
theorem Zj8:cQ 246 Z8f=true:=by kernel_rfl
theorem Zlq:cQ 247 Zfg=true:=by kernel_rfl
theorem Zee:cQ 248 Zbe=true:=by kernel_rfl
theorem Zca:cQ 249 Zdm=true:=by kernel_rfl
theorem Zb7:cQ 250 Z4y=true:=by kernel_rfl
theorem Zbi:cQ 251 Z8u=true:=by kernel_rfl
theorem Zgv:cQ 252 Ze1=true:=by kernel_rfl
theorem Zj5:cQ 253 Z8k=true:=by kernel_rfl
theorem Zkw:cQ 254 Z5e=true:=by kernel_rfl
theorem Zmd:cQ 255 Zbo=true:=by kernel_rfl
theorem Zgx:cQ 256 Zd2=true:=by kernel_rfl
theorem Zjt:cQ 257 Zaf=true:=by kernel_rfl
theorem Zlr:cQ 258 Zf0=true:=by kernel_rfl
theorem Zjx:cQ 259 Z7n=true:=by kernel_rfl
theorem Zlw:cQ 260 Z3m=true:=by kernel_rfl
end
end Go.Av
namespace Go.Av
noncomputable section
open Go.Proofs
set_option maxRecDepth 100000
theorem Znb:cQ 261 Z6p=true:=by kernel_rfl
theorem Zfz:cQ 262 Z5f=true:=by kernel_rfl
theorem Zn4:cQ 263 Z6u=true:=by kernel_rfl
theorem Zie:cQ 264 Z95=true:=by kernel_rfl
theorem Zjw:cQ 265 Zar=true:=by kernel_rfl
theorem Zjc:cQ 266 Zdl=true:=by kernel_rfl
theorem Zh8:cQ 267 Z9x=true:=by kernel_rfl
theorem Zgo:cQ 268 Zdf=true:=by kernel_rfl
theorem Zgy:cQ 269 Z80=true:=by kernel_rfl
theorem Zki:cQ 270 Zdo=true:=by kernel_rfl
theorem Qkk:cQ 271 Ze8=true:=by kernel_rfl
theorem Zgm:cQ 272 Z74=true:=by kernel_rfl
theorem Zke:cQ 273 Zde=true:=by kernel_rfl
theorem Zlp:cQ 274 Zdu=true:=by kernel_rfl
theorem Zkj:cQ 275 Z5r=true:=by kernel_rfl
theorem Z8w:cQ 276 Z4r=true:=by kernel_rfl
theorem Zhe:cQ 277 Z5n=true:=by kernel_rfl
theorem Zky:cQ 278 Zf5=true:=by kernel_rfl
theorem Zic:cQ 279 Z3h=true:=by kernel_rfl
theorem Z8b:cQ 280 Zbl=true:=by kernel_rfl
theorem Zcp:cQ 281 Z6s=true:=by kernel_rfl
theorem Z9w:cQ 282 Za4=true:=by kernel_rfl
theorem Zgt:cQ 283 Zbc=true:=by kernel_rfl
theorem Zme:cQ 284 Z85=true:=by kernel_rfl
theorem Zmk:cQ 285 Z43=true:=by kernel_rfl
theorem Zk6:cQ 286 Zf4=true:=by kernel_rfl
theorem Zh3:cQ 287 Zfo=true:=by kernel_rfl
theorem Zm6:cQ 288 Z5g=true:=by kernel_rfl
theorem Zgq:cQ 289 Zds=true:=by kernel_rfl
theorem Ziv:cQ 290 Z9h=true:=by kernel_rfl
theorem Zhv:cQ 291 Za1=true:=by kernel_rfl
theorem Zi6:cQ 292 Zag=true:=by kernel_rfl
theorem Zis:cQ 293 Z44=true:=by kernel_rfl
theorem Zhw:cQ 294 Z3j=true:=by kernel_rfl
theorem Zn7:cQ 295 Z93=true:=by kernel_rfl
theorem Zl1:cQ 296 Zb6=true:=by kernel_rfl
theorem Zm3:cQ 297 Zet=true:=by kernel_rfl
theorem Z91:cQ 298 Z8l=true:=by kernel_rfl
theorem Z3k:cQ 299 Zeo=true:=by kernel_rfl
theorem Zkr:cQ 300 Zf7=true:=by kernel_rfl
theorem Zma:cQ 301 Z67=true:=by kernel_rfl
theorem Z1i:cQ 302 Z3y=true:=by kernel_rfl
theorem Zmz:cQ 303 Z9i=true:=by kernel_rfl
theorem Zkl:cQ 304 Z92=true:=by kernel_rfl
theorem Zl8:cQ 305 Z9d=true:=by kernel_rfl
theorem Zm5:cQ 306 Zep=true:=by kernel_rfl
theorem Zj2:cQ 307 Z4k=true:=by kernel_rfl
theorem Znc:cQ 308 Zc2=true:=by kernel_rfl
theorem Zg2:cQ 309 Zeg=true:=by kernel_rfl
end
end Go.Av
namespace Go.Av
noncomputable section
open Go.Proofs
set_option maxRecDepth 100000
theorem Z99:cQ 310 Z5y=true:=by kernel_rfl
theorem Qzo:cQ 311 Zfk=true:=by kernel_rfl
theorem Zkh:cQ 312 Zdt=true:=by kernel_rfl
theorem Zgd:cQ 313 Z5t=true:=by kernel_rfl
theorem Zhd:cQ 314 Z5x=true:=by kernel_rfl
theorem Zi8:cQ 315 Zc4=true:=by kernel_rfl
theorem Zjn:cQ 316 Zbx=true:=by kernel_rfl
theorem Zm0:cQ 317 Zek=true:=by kernel_rfl
theorem Zin:cQ 318 Zah=true:=by kernel_rfl
theorem Zii:cQ 319 Z84=true:=by kernel_rfl
theorem Zg0:cQ 320 Zbr=true:=by kernel_rfl
theorem Zj0:cQ 321 Zal=true:=by kernel_rfl
theorem Zhq:cQ 322 Z5i=true:=by kernel_rfl
theorem Zgk:cQ 323 Zda=true:=by kernel_rfl
theorem Zjy:cQ 324 Zew=true:=by kernel_rfl
theorem Zfw:cQ 325 Ze4=true:=by kernel_rfl
theorem Zhc:cQ 326 Za7=true:=by kernel_rfl
theorem Zj4:cQ 327 Z4n=true:=by kernel_rfl
theorem Zix:cQ 328 Zbs=true:=by kernel_rfl
theorem Zgn:cQ 329 Z3e=true:=by kernel_rfl
theorem Z1f:cQ 330 Zfe=true:=by kernel_rfl
theorem Z8i:cQ 331 Z9r=true:=by kernel_rfl
theorem Zl3:cQ 332 Z38=true:=by kernel_rfl
theorem Zi7:cQ 333 Zai=true:=by kernel_rfl
theorem Zjh:cQ 334 Z59=true:=by kernel_rfl
theorem Zj6:cQ 335 Z4x=true:=by kernel_rfl
theorem Zgl:cQ 336 Z3n=true:=by kernel_rfl
theorem Zgb:cQ 337 Z5o=true:=by kernel_rfl
theorem Zk7:cQ 338 Zfa=true:=by kernel_rfl
theorem Zkv:cQ 339 Z4v=true:=by kernel_rfl
theorem Zmi:cQ 340 Z5s=true:=by kernel_rfl
theorem Zhj:cQ 341 Z72=true:=by kernel_rfl
theorem Zlu:cQ 342 Zbv=true:=by kernel_rfl
theorem Z17:cQ 343 Z9s=true:=by kernel_rfl
theorem Zko:cQ 344 Zcr=true:=by kernel_rfl
theorem Zjl:cQ 345 Z56=true:=by kernel_rfl
theorem Zga:cQ 346 Z9b=true:=by kernel_rfl
theorem Zkq:cQ 347 Z8v=true:=by kernel_rfl
theorem Zm2:cQ 348 Z97=true:=by kernel_rfl
theorem Zm1:cQ 349 Zbn=true:=by kernel_rfl
theorem Zjq:cQ 350 Z50=true:=by kernel_rfl
theorem Zh1:cQ 351 Zc9=true:=by kernel_rfl
theorem Zkx:cQ 352 Zc6=true:=by kernel_rfl
theorem Zhr:cQ 353 Zfj=true:=by kernel_rfl
theorem Zkb:cQ 354 Z6i=true:=by kernel_rfl
theorem Zge:cQ 355 Z9m=true:=by kernel_rfl
theorem Zji:cQ 356 Z57=true:=by kernel_rfl
theorem Zka:cQ 357 Z4j=true:=by kernel_rfl
theorem Zgg:cQ 358 Z6x=true:=by kernel_rfl
theorem Zfv:cQ 359 Z7d=true:=by kernel_rfl
end
end Go.Av
namespace Go.Av
noncomputable section
open Go.Proofs
set_option maxRecDepth 100000
theorem Zgf:cQ 360 Zcg=true:=by kernel_rfl
theorem Zit:cQ 361 Z4u=true:=by kernel_rfl
theorem Zht:cQ 362 Zeu=true:=by kernel_rfl
theorem Zha:cQ 363 Z35=true:=by kernel_rfl
theorem Zjg:cQ 364 Z7e=true:=by kernel_rfl
theorem Zgp:cQ 365 Z48=true:=by kernel_rfl
theorem Zmq:cQ 366 Zaa=true:=by kernel_rfl
theorem Zmb:cQ 367 Zdj=true:=by kernel_rfl
theorem Zk3:cQ 368 Z3c=true:=by kernel_rfl
theorem Zhx:cQ 369 Zb1=true:=by kernel_rfl
theorem Zig:cQ 370 Z6t=true:=by kernel_rfl
theorem Zg7:cQ 371 Zft=true:=by kernel_rfl
theorem Zkg:cQ 372 Z90=true:=by kernel_rfl
theorem Ziz:cQ 373 Z34=true:=by kernel_rfl
theorem Zmo:cQ 374 Z6k=true:=by kernel_rfl
theorem Zh2:cQ 375 Zfn=true:=by kernel_rfl
theorem Zn1:cQ 376 Z9t=true:=by kernel_rfl
theorem Zgi:cQ 377 Z4z=true:=by kernel_rfl
theorem Zi9:cQ 378 Z8t=true:=by kernel_rfl
theorem Zla:cQ 379 Z4t=true:=by kernel_rfl
theorem Zll:cQ 380 Z8g=true:=by kernel_rfl
theorem Zld:cQ 381 Z3t=true:=by kernel_rfl
theorem Zjv:cQ 382 Zbm=true:=by kernel_rfl
theorem Zle:cQ 383 Z7m=true:=by kernel_rfl
theorem Zmn:cQ 384 Z3o=true:=by kernel_rfl
theorem Zjj:cQ 385 Z3b=true:=by kernel_rfl
theorem Zkf:cQ 386 Zc3=true:=by kernel_rfl
theorem Zlc:cQ 387 Z49=true:=by kernel_rfl
theorem Zhu:cQ 388 Zcx=true:=by kernel_rfl
theorem Zlx:cQ 389 Z63=true:=by kernel_rfl
theorem Zlz:cQ 390 Zbj=true:=by kernel_rfl
theorem Znd:cQ 391 Zc1=true:=by kernel_rfl
theorem Zjd:cQ 392 Z82=true:=by kernel_rfl
theorem Zlo:cQ 393 Zdq=true:=by kernel_rfl
theorem Zkk:cQ 394 Z76=true:=by kernel_rfl
theorem Zh7:cQ 395 Zer=true:=by kernel_rfl
theorem Zln:cQ 396 Z7i=true:=by kernel_rfl
theorem Zk4:cQ 397 Z9j=true:=by kernel_rfl
end
end Go.Av
namespace Go.Av
noncomputable section
open Go.Proofs
set_option maxRecDepth 100000
theorem Zg3:cQ 398 Zav=true:=by kernel_rfl
theorem Zku:cQ 399 Zcl=true:=by kernel_rfl
theorem Zjo:cQ 400 Zbf=true:=by kernel_rfl
theorem Ziw:cQ 401 Z8q=true:=by kernel_rfl
theorem Zib:cQ 402 Zcj=true:=by kernel_rfl
theorem Zfy:cQ 403 Z4w=true:=by kernel_rfl
theorem Zm7:cQ 404 Z6e=true:=by kernel_rfl
theorem Zn2:cQ 405 Z54=true:=by kernel_rfl
theorem Zl6:cQ 406 Z6w=true:=by kernel_rfl
theorem Zh5:cQ 407 Z6c=true:=by kernel_rfl
theorem Zkn:cQ 408 Z52=true:=by kernel_rfl
theorem Zh0:cQ 409 Ze3=true:=by kernel_rfl
theorem Zje:cQ 410 Z3p=true:=by kernel_rfl
theorem Ziu:cQ 411 Z64=true:=by kernel_rfl
theorem Zjf:cQ 412 Zes=true:=by kernel_rfl
theorem Zmg:cQ 413 Za9=true:=by kernel_rfl
theorem Zl2:cQ 414 Zbp=true:=by kernel_rfl
theorem Zmt:cQ 415 Z8s=true:=by kernel_rfl
theorem Zhb:cQ 416 Z5w=true:=by kernel_rfl
theorem Zhz:cQ 417 Z87=true:=by kernel_rfl
theorem Zhk:cQ 418 Zed=true:=by kernel_rfl
theorem Zil:cQ 419 Z6j=true:=by kernel_rfl
theorem Zho:cQ 420 Z3f=true:=by kernel_rfl
theorem Zi1:cQ 421 Zfi=true:=by kernel_rfl
theorem Zja:cQ 422 Zbt=true:=by kernel_rfl
theorem Zhn:cQ 423 Zaz=true:=by kernel_rfl
theorem Zli:cQ 424 Zcs=true:=by kernel_rfl
theorem Zkm:cQ 426 Zeh=true:=by kernel_rfl
theorem Zir:cQ 429 Z96=true:=by kernel_rfl
theorem Zne:cQ 430 Zd0=true:=by kernel_rfl
theorem Zih:cQ 431 Z9k=true:=by kernel_rfl
theorem Zly:cQ 432 Ze7=true:=by kernel_rfl
theorem Zkd:cQ 433 Z71=true:=by kernel_rfl
theorem Zlm:cQ 434 Zd3=true:=by kernel_rfl
theorem Zkp:cQ 435 Zcw=true:=by kernel_rfl
theorem Zna:cQ 436 Zf8=true:=by kernel_rfl
theorem Zm9:cQ 437 Zex=true:=by kernel_rfl
theorem Zlg:cQ 438 Zby=true:=by kernel_rfl
theorem Zi3:cQ 439 Z55=true:=by kernel_rfl
theorem Zj9:cQ 457 Zao=true:=by kernel_rfl
theorem Zkz:cQ 459 Z9q=true:=by kernel_rfl
theorem Zmw:cQ 460 Zdv=true:=by kernel_rfl
theorem Zlj:cQ 461 Z68=true:=by kernel_rfl
theorem Ziq:cQ 462 Z5l=true:=by kernel_rfl
theorem Zgs:cQ 463 Zb3=true:=by kernel_rfl
theorem Z2b:cQ 464 Zeq=true:=by kernel_rfl
theorem Z9y:cQ 465 Z7p=true:=by kernel_rfl
theorem Zbz:cQ 467 Z5j=true:=by kernel_rfl
theorem Zf9:cQ 469 Zd6=true:=by kernel_rfl
theorem Ziy:cQ 471 Zen=true:=by kernel_rfl
end
end Go.Av

