/- Part of the proof of FrommqttOwn: for every input the law returns true; no condition. -/
import Derived.Test.YtpmcdjbdijjgkaaGreatDoorCode1
import Derived.Test.YtpmcdjbdijjgkaaGreatDoorAvChk
import Derived.KernelRfl
import Derived.Test.YtpmcdjbdijjgkaaGreatDoorProg
namespace Go.Av
noncomputable section
open Go.Proofs
set_option maxRecDepth 100000
abbrev cQ := Gh Tryz.prog
theorem k3 : cQ 3 c3 = true := by kernel_rfl
theorem k4 : cQ 4 c4 = true := by kernel_rfl
theorem k5 : cQ 5 c5 = true := by kernel_rfl
theorem k6 : cQ 6 c6 = true := by kernel_rfl
theorem k7 : cQ 7 c7 = true := by kernel_rfl
theorem k8 : cQ 8 c8 = true := by kernel_rfl
theorem k9 : cQ 9 c9 = true := by kernel_rfl
theorem k10 : cQ 10 c10 = true := by kernel_rfl
theorem k11 : cQ 11 c11 = true := by kernel_rfl
theorem k12 : cQ 12 c12 = true := by kernel_rfl
theorem k13 : cQ 13 c13 = true := by kernel_rfl
theorem k14 : cQ 14 c14 = true := by kernel_rfl
theorem k15 : cQ 15 c15 = true := by kernel_rfl
theorem k16 : cQ 16 c16 = true := by kernel_rfl
theorem k17 : cQ 17 c17 = true := by kernel_rfl
theorem k18 : cQ 18 c18 = true := by kernel_rfl
theorem k19 : cQ 19 c19 = true := by kernel_rfl
theorem k20 : cQ 20 c20 = true := by kernel_rfl
theorem k21 : cQ 21 c21 = true := by kernel_rfl
theorem k22 : cQ 22 c22 = true := by kernel_rfl
theorem k23 : cQ 23 c23 = true := by kernel_rfl
theorem k24 : cQ 24 c24 = true := by kernel_rfl
theorem k25 : cQ 25 c25 = true := by kernel_rfl
theorem k26 : cQ 26 c26 = true := by kernel_rfl
theorem k27 : cQ 27 c27 = true := by kernel_rfl
theorem k28 : cQ 28 c28 = true := by kernel_rfl
theorem k29 : cQ 29 c29 = true := by kernel_rfl
theorem k30 : cQ 30 c30 = true := by kernel_rfl
theorem k31 : cQ 31 c31 = true := by kernel_rfl
theorem k32 : cQ 32 c32 = true := by kernel_rfl
theorem k33 : cQ 33 c33 = true := by kernel_rfl
theorem k34 : cQ 34 c34 = true := by kernel_rfl
theorem k35 : cQ 35 c35 = true := by kernel_rfl
theorem k36 : cQ 36 c36 = true := by kernel_rfl
theorem k37 : cQ 37 c37 = true := by kernel_rfl
theorem k38 : cQ 38 c38 = true := by kernel_rfl
theorem k39 : cQ 39 c39 = true := by kernel_rfl
theorem k40 : cQ 40 c40 = true := by kernel_rfl
theorem k41 : cQ 41 c41 = true := by kernel_rfl
theorem k42 : cQ 42 c42 = true := by kernel_rfl
end
end Go.Av
namespace Go.Av
noncomputable section
open Go.Proofs
set_option maxRecDepth 100000
theorem k43 : cQ 43 c43 = true := by kernel_rfl
theorem k44 : cQ 44 c44 = true := by kernel_rfl
theorem k45 : cQ 45 c45 = true := by kernel_rfl
theorem k46 : cQ 46 c46 = true := by kernel_rfl
theorem k47 : cQ 47 c47 = true := by kernel_rfl
theorem k48 : cQ 48 c48 = true := by kernel_rfl
theorem k49 : cQ 49 c49 = true := by kernel_rfl
theorem k50 : cQ 50 c50 = true := by kernel_rfl
theorem k51 : cQ 51 c51 = true := by kernel_rfl
theorem k52 : cQ 52 c52 = true := by kernel_rfl
theorem k53 : cQ 53 c53 = true := by kernel_rfl
theorem k54 : cQ 54 c54 = true := by kernel_rfl
theorem k55 : cQ 55 c55 = true := by kernel_rfl
theorem k56 : cQ 56 c56 = true := by kernel_rfl
theorem k57 : cQ 57 c57 = true := by kernel_rfl
theorem k58 : cQ 58 c58 = true := by kernel_rfl
theorem k59 : cQ 59 c59 = true := by kernel_rfl
theorem k60 : cQ 60 c60 = true := by kernel_rfl
theorem k61 : cQ 61 c61 = true := by kernel_rfl
theorem k62 : cQ 62 c62 = true := by kernel_rfl
theorem k63 : cQ 63 c63 = true := by kernel_rfl
theorem k64 : cQ 64 c64 = true := by kernel_rfl
theorem k65 : cQ 65 c65 = true := by kernel_rfl
theorem k66 : cQ 66 c66 = true := by kernel_rfl
theorem k67 : cQ 67 c67 = true := by kernel_rfl
theorem k68 : cQ 68 c68 = true := by kernel_rfl
theorem k69 : cQ 69 c69 = true := by kernel_rfl
theorem k70 : cQ 70 c70 = true := by kernel_rfl
theorem k71 : cQ 71 c71 = true := by kernel_rfl
theorem k72 : cQ 72 c72 = true := by kernel_rfl
theorem k73 : cQ 73 c73 = true := by kernel_rfl
theorem k74 : cQ 74 c74 = true := by kernel_rfl
theorem k75 : cQ 75 c75 = true := by kernel_rfl
theorem k76 : cQ 76 c76 = true := by kernel_rfl
theorem k77 : cQ 77 c77 = true := by kernel_rfl
theorem k78 : cQ 78 c78 = true := by kernel_rfl
theorem k79 : cQ 79 c79 = true := by kernel_rfl
theorem k80 : cQ 80 c80 = true := by kernel_rfl
theorem k81 : cQ 81 c81 = true := by kernel_rfl
theorem k82 : cQ 82 c82 = true := by kernel_rfl
end
end Go.Av
namespace Go.Av
noncomputable section
open Go.Proofs
set_option maxRecDepth 100000
theorem k83 : cQ 83 c83 = true := by kernel_rfl
theorem k84 : cQ 84 c84 = true := by kernel_rfl
theorem k85 : cQ 85 c85 = true := by kernel_rfl
theorem k86 : cQ 86 c86 = true := by kernel_rfl
theorem k87 : cQ 87 c87 = true := by kernel_rfl
theorem k88 : cQ 88 c88 = true := by kernel_rfl
theorem k89 : cQ 89 c89 = true := by kernel_rfl
theorem k90 : cQ 90 c90 = true := by kernel_rfl
theorem k91 : cQ 91 c91 = true := by kernel_rfl
theorem k92 : cQ 92 c92 = true := by kernel_rfl
theorem k93 : cQ 93 c93 = true := by kernel_rfl
theorem k94 : cQ 94 c94 = true := by kernel_rfl
theorem k95 : cQ 95 c95 = true := by kernel_rfl
theorem k96 : cQ 96 c96 = true := by kernel_rfl
theorem k97 : cQ 97 c97 = true := by kernel_rfl
theorem k98 : cQ 98 c98 = true := by kernel_rfl
theorem k99 : cQ 99 c99 = true := by kernel_rfl
theorem Qu5 : cQ 100 Que = true := by kernel_rfl
theorem Qun : cQ 101 Qwh = true := by kernel_rfl
theorem Qwt : cQ 102 Qtn = true := by kernel_rfl
theorem Qtx : cQ 103 Qrf = true := by kernel_rfl
theorem Qq0 : cQ 104 Qtz = true := by kernel_rfl
theorem Qw1 : cQ 105 Qsz = true := by kernel_rfl
theorem Qrw : cQ 106 Qvv = true := by kernel_rfl
theorem Qs4 : cQ 107 Qvh = true := by kernel_rfl
theorem Qxr : cQ 108 Qrm = true := by kernel_rfl
theorem Quw : cQ 109 Qr9 = true := by kernel_rfl
theorem Qub : cQ 110 Qwd = true := by kernel_rfl
theorem Qvy : cQ 111 Qsx = true := by kernel_rfl
theorem Qrl : cQ 112 Quz = true := by kernel_rfl
theorem Qtd : cQ 113 Quq = true := by kernel_rfl
theorem Qxh : cQ 114 Qsk = true := by kernel_rfl
theorem Qxn : cQ 115 Qup = true := by kernel_rfl
theorem Qxt : cQ 116 Qvz = true := by kernel_rfl
theorem Qw6 : cQ 117 Qsh = true := by kernel_rfl
theorem Qxi : cQ 118 Qto = true := by kernel_rfl
theorem Qt2 : cQ 119 Qsu = true := by kernel_rfl
theorem Qs9 : cQ 120 Qty = true := by kernel_rfl
theorem Qu2 : cQ 121 Qsi = true := by kernel_rfl
theorem Qua : cQ 122 Qtr = true := by kernel_rfl
theorem Qqh : cQ 123 Qr1 = true := by kernel_rfl
theorem Qv1 : cQ 124 Qrb = true := by kernel_rfl
theorem Qqe : cQ 125 Qtt = true := by kernel_rfl
theorem Qru : cQ 126 Quo = true := by kernel_rfl
theorem Qqc : cQ 127 Qum = true := by kernel_rfl
theorem Qug : cQ 128 Qso = true := by kernel_rfl
theorem Qq4 : cQ 129 Qvp = true := by kernel_rfl
theorem Qrj : cQ 130 Qrz = true := by kernel_rfl
theorem Qtb : cQ 131 Qu8 = true := by kernel_rfl
theorem Qx1 : cQ 132 Qts = true := by kernel_rfl
theorem Qx5 : cQ 133 Qrg = true := by kernel_rfl
end
end Go.Av
namespace Go.Av
noncomputable section
open Go.Proofs
set_option maxRecDepth 100000
theorem Qxw : cQ 134 Qu7 = true := by kernel_rfl
theorem Quk : cQ 135 Qsg = true := by kernel_rfl
theorem Qs6 : cQ 136 Qry = true := by kernel_rfl
theorem Qsf : cQ 137 Quc = true := by kernel_rfl
theorem Qw2 : cQ 138 Qvu = true := by kernel_rfl
theorem Qxg : cQ 139 Qva = true := by kernel_rfl
theorem Qxl : cQ 140 Qu1 = true := by kernel_rfl
theorem Qxa : cQ 141 Qv4 = true := by kernel_rfl
theorem Qwk : cQ 142 Qwe = true := by kernel_rfl
theorem Qvg : cQ 143 Qtc = true := by kernel_rfl
theorem Qvm : cQ 144 Qwb = true := by kernel_rfl
theorem Qux : cQ 145 Qv3 = true := by kernel_rfl
theorem Quh : cQ 146 Qrr = true := by kernel_rfl
theorem Qrx : cQ 147 Qre = true := by kernel_rfl
theorem Qw5 : cQ 148 Qtv = true := by kernel_rfl
theorem Quy : cQ 149 Qsj = true := by kernel_rfl
theorem Qvl : cQ 150 Qt3 = true := by kernel_rfl
theorem Qrn : cQ 151 Qsb = true := by kernel_rfl
theorem Qvw : cQ 152 Qst = true := by kernel_rfl
theorem Qsr : cQ 153 Qsa = true := by kernel_rfl
theorem Qsq : cQ 154 Qsd = true := by kernel_rfl
theorem Qwf : cQ 155 Qw0 = true := by kernel_rfl
theorem Qss : cQ 156 Qro = true := by kernel_rfl
theorem Qv2 : cQ 157 Qu3 = true := by kernel_rfl
theorem Qsl : cQ 158 Qqx = true := by kernel_rfl
theorem Qx3 : cQ 159 Qvq = true := by kernel_rfl
theorem Qwm : cQ 160 Qv6 = true := by kernel_rfl
theorem Qxe : cQ 161 Qrc = true := by kernel_rfl
theorem Qvi : cQ 162 Qs2 = true := by kernel_rfl
theorem Qv5 : cQ 163 Qwa = true := by kernel_rfl
theorem Qwy : cQ 164 Qvd = true := by kernel_rfl
theorem Qv7 : cQ 165 Qt7 = true := by kernel_rfl
theorem Qu0 : cQ 166 Qwc = true := by kernel_rfl
theorem Qxj : cQ 167 Qr8 = true := by kernel_rfl
theorem Qwn : cQ 168 Qur = true := by kernel_rfl
theorem Qxq : cQ 169 Qs3 = true := by kernel_rfl
theorem Qwp : cQ 170 Qth = true := by kernel_rfl
theorem Qvb : cQ 171 Qwi = true := by kernel_rfl
theorem Qsn : cQ 172 Qt8 = true := by kernel_rfl
theorem Qvn : cQ 173 Qrt = true := by kernel_rfl
theorem Qrq : cQ 174 Quu = true := by kernel_rfl
theorem Qtf : cQ 175 Qt0 = true := by kernel_rfl
theorem Qu6 : cQ 176 Qtu = true := by kernel_rfl
theorem Qs7 : cQ 177 Qsc = true := by kernel_rfl
theorem Qr5 : cQ 178 Qui = true := by kernel_rfl
theorem Qta : cQ 179 Qu4 = true := by kernel_rfl
theorem Qve : cQ 180 Qt1 = true := by kernel_rfl
theorem Qwq : cQ 181 Qr0 = true := by kernel_rfl
theorem Qxu : cQ 182 Qsp = true := by kernel_rfl
theorem Qxo : cQ 183 Qri = true := by kernel_rfl
theorem Qxm : cQ 184 Qrv = true := by kernel_rfl
theorem Qwu : cQ 185 Qrh = true := by kernel_rfl
theorem Qx0 : cQ 186 Qtq = true := by kernel_rfl
theorem Qx8 : cQ 187 Qw3 = true := by kernel_rfl
theorem Qt5 : cQ 188 Qul = true := by kernel_rfl
theorem Qvj : cQ 189 Qse = true := by kernel_rfl
theorem Qw9 : cQ 190 Qtg = true := by kernel_rfl
theorem Qvt : cQ 191 Qtw = true := by kernel_rfl
theorem Qtk : cQ 192 Quv = true := by kernel_rfl
theorem Qvk : cQ 195 Qr3 = true := by kernel_rfl
theorem Qwj : cQ 196 Quf = true := by kernel_rfl
theorem Qs5 : cQ 197 Qqw = true := by kernel_rfl
theorem Qxb : cQ 198 Qrk = true := by kernel_rfl
theorem Qx4 : cQ 199 Qr7 = true := by kernel_rfl
theorem Qwr : cQ 200 Qv0 = true := by kernel_rfl
theorem Qti : cQ 201 Qtp = true := by kernel_rfl
theorem Qrs : cQ 202 Qw7 = true := by kernel_rfl
theorem Qx7 : cQ 203 Qtl = true := by kernel_rfl
theorem Qtm : cQ 205 Qvx = true := by kernel_rfl
end
end Go.Av
namespace Go.Av
noncomputable section
open Go.Proofs
set_option maxRecDepth 100000
theorem Qvr : cQ 206 Qvf = true := by kernel_rfl
theorem Qvo : cQ 207 Qwg = true := by kernel_rfl
theorem Qsm : cQ 208 Qqy = true := by kernel_rfl
theorem Qqu : cQ 209 Qsv = true := by kernel_rfl
theorem Qtj : cQ 210 Qw4 = true := by kernel_rfl
theorem Qt9 : cQ 211 Quj = true := by kernel_rfl
theorem Qqz : cQ 212 Qu9 = true := by kernel_rfl
theorem Qwv : cQ 214 Qs0 = true := by kernel_rfl
theorem Qv9 : cQ 216 Qud = true := by kernel_rfl
theorem Qxd : cQ 217 Qw8 = true := by kernel_rfl
end
end Go.Av

