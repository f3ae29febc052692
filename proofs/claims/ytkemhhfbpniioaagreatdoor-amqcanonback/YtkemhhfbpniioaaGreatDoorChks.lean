/- The law. Part of a proof of a given statement: for every input the law returns true and the arguments read as before; no condition beyond the given row. -/
import Derived.Test.YtkemhhfbpniioaaGreatDoorCode1
import Derived.Test.YtkemhhfbpniioaaGreatDoorAvChk
import Derived.KernelRfl
import Derived.Test.YtkemhhfbpniioaaGreatDoorProg
namespace Go.Av
noncomputable section
open Go.Proofs
set_option maxRecDepth 100000
theorem k3 : Qa Tryz.prog 3 c3 = true := by kernel_rfl
theorem k4 : Qa Tryz.prog 4 c4 = true := by kernel_rfl
theorem k5 : Qa Tryz.prog 5 c5 = true := by kernel_rfl
theorem k6 : Qa Tryz.prog 6 c6 = true := by kernel_rfl
theorem k7 : Qa Tryz.prog 7 c7 = true := by kernel_rfl
theorem k12 : Qa Tryz.prog 12 c12 = true := by kernel_rfl
theorem k13 : Qa Tryz.prog 13 c13 = true := by kernel_rfl
theorem k17 : Qa Tryz.prog 17 c17 = true := by kernel_rfl
theorem k18 : Qa Tryz.prog 18 c18 = true := by kernel_rfl
theorem k19 : Qa Tryz.prog 19 c19 = true := by kernel_rfl
theorem k20 : Qa Tryz.prog 20 c20 = true := by kernel_rfl
end
end Go.Av
namespace Go.Av
noncomputable section
open Go.Proofs
set_option maxRecDepth 100000
theorem k21 : Qa Tryz.prog 21 c21 = true := by kernel_rfl
theorem k22 : Qa Tryz.prog 22 c22 = true := by kernel_rfl
theorem k23 : Qa Tryz.prog 23 c23 = true := by kernel_rfl
theorem k25 : Qa Tryz.prog 25 c25 = true := by kernel_rfl
theorem k30 : Qa Tryz.prog 30 c30 = true := by kernel_rfl
theorem k39 : Qa Tryz.prog 39 c39 = true := by kernel_rfl
theorem k49 : Qa Tryz.prog 49 c49 = true := by kernel_rfl
theorem k53 : Qa Tryz.prog 53 c53 = true := by kernel_rfl
theorem k54 : Qa Tryz.prog 54 c54 = true := by kernel_rfl
theorem k55 : Qa Tryz.prog 55 c55 = true := by kernel_rfl
theorem k56 : Qa Tryz.prog 56 c56 = true := by kernel_rfl
theorem k58 : Qa Tryz.prog 58 c58 = true := by kernel_rfl
end
end Go.Av
namespace Go.Av
noncomputable section
open Go.Proofs
set_option maxRecDepth 100000
theorem k60 : Qa Tryz.prog 60 c60 = true := by kernel_rfl
theorem k61 : Qa Tryz.prog 61 c61 = true := by kernel_rfl
theorem k62 : Qa Tryz.prog 62 c62 = true := by kernel_rfl
theorem k63 : Qa Tryz.prog 63 c63 = true := by kernel_rfl
theorem k64 : Qa Tryz.prog 64 c64 = true := by kernel_rfl
theorem k65 : Qa Tryz.prog 65 c65 = true := by kernel_rfl
theorem k66 : Qa Tryz.prog 66 c66 = true := by kernel_rfl
theorem k67 : Qa Tryz.prog 67 c67 = true := by kernel_rfl
theorem k68 : Qa Tryz.prog 68 c68 = true := by kernel_rfl
theorem k74 : Qa Tryz.prog 74 c74 = true := by kernel_rfl
theorem k75 : Qa Tryz.prog 75 c75 = true := by kernel_rfl
theorem k82 : Qa Tryz.prog 82 c82 = true := by kernel_rfl
theorem k83 : Qa Tryz.prog 83 c83 = true := by kernel_rfl
theorem k84 : Qa Tryz.prog 84 c84 = true := by kernel_rfl
theorem k85 : Qa Tryz.prog 85 c85 = true := by kernel_rfl
theorem k86 : Qa Tryz.prog 86 c86 = true := by kernel_rfl
theorem k87 : Qa Tryz.prog 87 c87 = true := by kernel_rfl
theorem k88 : Qa Tryz.prog 88 c88 = true := by kernel_rfl
theorem k89 : Qa Tryz.prog 89 c89 = true := by kernel_rfl
theorem k90 : Qa Tryz.prog 90 c90 = true := by kernel_rfl
theorem k91 : Qa Tryz.prog 91 c91 = true := by kernel_rfl
theorem k92 : Qa Tryz.prog 92 c92 = true := by kernel_rfl
theorem k93 : Qa Tryz.prog 93 c93 = true := by kernel_rfl
theorem k94 : Qa Tryz.prog 94 c94 = true := by kernel_rfl
theorem k95 : Qa Tryz.prog 95 c95 = true := by kernel_rfl
theorem k96 : Qa Tryz.prog 96 c96 = true := by kernel_rfl
theorem k97 : Qa Tryz.prog 97 c97 = true := by kernel_rfl
theorem k98 : Qa Tryz.prog 98 c98 = true := by kernel_rfl
end
end Go.Av
namespace Go.Av
noncomputable section
open Go.Proofs
set_option maxRecDepth 100000
theorem k99 : Qa Tryz.prog 99 c99 = true := by kernel_rfl
theorem Quo : Qa Tryz.prog 100 Qsf = true := by kernel_rfl
theorem Qut : Qa Tryz.prog 102 Qsp = true := by kernel_rfl
theorem Qts : Qa Tryz.prog 107 Qsl = true := by kernel_rfl
theorem Qt8 : Qa Tryz.prog 108 Qsi = true := by kernel_rfl
theorem Qtf : Qa Tryz.prog 109 Qt2 = true := by kernel_rfl
theorem Qu0 : Qa Tryz.prog 110 Qsz = true := by kernel_rfl
theorem Qtk : Qa Tryz.prog 111 Qsm = true := by kernel_rfl
theorem Qu7 : Qa Tryz.prog 112 Qrx = true := by kernel_rfl
theorem Qug : Qa Tryz.prog 113 Qsw = true := by kernel_rfl
theorem Qtq : Qa Tryz.prog 114 Qst = true := by kernel_rfl
theorem Qul : Qa Tryz.prog 115 Qsh = true := by kernel_rfl
theorem Qtn : Qa Tryz.prog 116 Qsx = true := by kernel_rfl
theorem Qu2 : Qa Tryz.prog 117 Qry = true := by kernel_rfl
theorem Qu8 : Qa Tryz.prog 118 Qs5 = true := by kernel_rfl
theorem Que : Qa Tryz.prog 119 Qs7 = true := by kernel_rfl
theorem Qu5 : Qa Tryz.prog 120 Qs1 = true := by kernel_rfl
theorem Qtm : Qa Tryz.prog 121 Qsc = true := by kernel_rfl
theorem Qur : Qa Tryz.prog 128 Qsv = true := by kernel_rfl
theorem Qtt : Qa Tryz.prog 129 Qrz = true := by kernel_rfl
theorem Qtw : Qa Tryz.prog 130 Qs8 = true := by kernel_rfl
theorem Qtd : Qa Tryz.prog 131 Qso = true := by kernel_rfl
theorem Qu4 : Qa Tryz.prog 132 Qsa = true := by kernel_rfl
end
end Go.Av
namespace Go.Av
noncomputable section
open Go.Proofs
set_option maxRecDepth 100000
theorem Qtc : Qa Tryz.prog 133 Qsb = true := by kernel_rfl
theorem Qtr : Qa Tryz.prog 134 Qsr = true := by kernel_rfl
theorem Qtu : Qa Tryz.prog 135 Qsq = true := by kernel_rfl
theorem Quf : Qa Tryz.prog 136 Qs3 = true := by kernel_rfl
theorem Qt4 : Qa Tryz.prog 137 Qt3 = true := by kernel_rfl
theorem Qta : Qa Tryz.prog 138 Qt1 = true := by kernel_rfl
theorem Quh : Qa Tryz.prog 141 Qs2 = true := by kernel_rfl
theorem Qu9 : Qa Tryz.prog 153 Qsd = true := by kernel_rfl
theorem Qti : Qa Tryz.prog 154 Qsj = true := by kernel_rfl
theorem Qu6 : Qa Tryz.prog 155 Qs0 = true := by kernel_rfl
end
end Go.Av
namespace Go.Av
noncomputable section
open Go.Proofs
set_option maxRecDepth 100000
end
end Go.Av

