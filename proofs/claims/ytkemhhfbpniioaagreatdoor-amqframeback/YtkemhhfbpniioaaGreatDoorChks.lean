/- The law. Part of a proof of a given statement: for every input the law returns true and the arguments read as before; no condition beyond the given row. -/
import Derived.Test.YtkemhhfbpniioaaGreatDoorCode1
import Derived.Test.YtkemhhfbpniioaaGreatDoorAvChk
import Derived.KernelRfl
import Derived.Test.YtkemhhfbpniioaaGreatDoorProg
namespace Go.Av
noncomputable section
open Go.Proofs
set_option maxRecDepth 100000
theorem k3 : Q7 Tryz.prog 3 c3 = true := by kernel_rfl
theorem k4 : Q7 Tryz.prog 4 c4 = true := by kernel_rfl
theorem k5 : Q7 Tryz.prog 5 c5 = true := by kernel_rfl
theorem k6 : Q7 Tryz.prog 6 c6 = true := by kernel_rfl
theorem k7 : Q7 Tryz.prog 7 c7 = true := by kernel_rfl
theorem k10 : Q7 Tryz.prog 10 c10 = true := by kernel_rfl
theorem k17 : Q7 Tryz.prog 17 c17 = true := by kernel_rfl
theorem k20 : Q7 Tryz.prog 20 c20 = true := by kernel_rfl
end
end Go.Av
namespace Go.Av
noncomputable section
open Go.Proofs
set_option maxRecDepth 100000
theorem k21 : Q7 Tryz.prog 21 c21 = true := by kernel_rfl
theorem k24 : Q7 Tryz.prog 24 c24 = true := by kernel_rfl
theorem k25 : Q7 Tryz.prog 25 c25 = true := by kernel_rfl
theorem k26 : Q7 Tryz.prog 26 c26 = true := by kernel_rfl
theorem k33 : Q7 Tryz.prog 33 c33 = true := by kernel_rfl
theorem k36 : Q7 Tryz.prog 36 c36 = true := by kernel_rfl
theorem k37 : Q7 Tryz.prog 37 c37 = true := by kernel_rfl
theorem k38 : Q7 Tryz.prog 38 c38 = true := by kernel_rfl
theorem k41 : Q7 Tryz.prog 41 c41 = true := by kernel_rfl
theorem k42 : Q7 Tryz.prog 42 c42 = true := by kernel_rfl
theorem k49 : Q7 Tryz.prog 49 c49 = true := by kernel_rfl
theorem k52 : Q7 Tryz.prog 52 c52 = true := by kernel_rfl
end
end Go.Av
namespace Go.Av
noncomputable section
open Go.Proofs
set_option maxRecDepth 100000
theorem k61 : Q7 Tryz.prog 61 c61 = true := by kernel_rfl
theorem k62 : Q7 Tryz.prog 62 c62 = true := by kernel_rfl
theorem k63 : Q7 Tryz.prog 63 c63 = true := by kernel_rfl
theorem k64 : Q7 Tryz.prog 64 c64 = true := by kernel_rfl
theorem k66 : Q7 Tryz.prog 66 c66 = true := by kernel_rfl
theorem k67 : Q7 Tryz.prog 67 c67 = true := by kernel_rfl
theorem k69 : Q7 Tryz.prog 69 c69 = true := by kernel_rfl
theorem k70 : Q7 Tryz.prog 70 c70 = true := by kernel_rfl
theorem k71 : Q7 Tryz.prog 71 c71 = true := by kernel_rfl
theorem k73 : Q7 Tryz.prog 73 c73 = true := by kernel_rfl
theorem k74 : Q7 Tryz.prog 74 c74 = true := by kernel_rfl
theorem k75 : Q7 Tryz.prog 75 c75 = true := by kernel_rfl
theorem k77 : Q7 Tryz.prog 77 c77 = true := by kernel_rfl
theorem k78 : Q7 Tryz.prog 78 c78 = true := by kernel_rfl
theorem k79 : Q7 Tryz.prog 79 c79 = true := by kernel_rfl
theorem k87 : Q7 Tryz.prog 87 c87 = true := by kernel_rfl
theorem k88 : Q7 Tryz.prog 88 c88 = true := by kernel_rfl
theorem k89 : Q7 Tryz.prog 89 c89 = true := by kernel_rfl
theorem k90 : Q7 Tryz.prog 90 c90 = true := by kernel_rfl
theorem k91 : Q7 Tryz.prog 91 c91 = true := by kernel_rfl
theorem k92 : Q7 Tryz.prog 92 c92 = true := by kernel_rfl
theorem k93 : Q7 Tryz.prog 93 c93 = true := by kernel_rfl
theorem k94 : Q7 Tryz.prog 94 c94 = true := by kernel_rfl
theorem k95 : Q7 Tryz.prog 95 c95 = true := by kernel_rfl
theorem k96 : Q7 Tryz.prog 96 c96 = true := by kernel_rfl
end
end Go.Av
namespace Go.Av
noncomputable section
open Go.Proofs
set_option maxRecDepth 100000
theorem Qrx : Q7 Tryz.prog 101 Qu4 = true := by kernel_rfl
theorem Qv5 : Q7 Tryz.prog 102 Qt2 = true := by kernel_rfl
theorem Qvq : Q7 Tryz.prog 106 Qt9 = true := by kernel_rfl
theorem Qus : Q7 Tryz.prog 107 Qsu = true := by kernel_rfl
theorem Qv2 : Q7 Tryz.prog 109 Qu8 = true := by kernel_rfl
theorem Qwb : Q7 Tryz.prog 110 Qsz = true := by kernel_rfl
theorem Qup : Q7 Tryz.prog 111 Qtq = true := by kernel_rfl
theorem Qvj : Q7 Tryz.prog 112 Qt5 = true := by kernel_rfl
theorem Qvc : Q7 Tryz.prog 113 Qtu = true := by kernel_rfl
theorem Qvp : Q7 Tryz.prog 114 Qtr = true := by kernel_rfl
theorem Qv3 : Q7 Tryz.prog 115 Qst = true := by kernel_rfl
theorem Qw6 : Q7 Tryz.prog 116 Qtw = true := by kernel_rfl
theorem Qwa : Q7 Tryz.prog 117 Qth = true := by kernel_rfl
theorem Qvl : Q7 Tryz.prog 118 Qtf = true := by kernel_rfl
theorem Quu : Q7 Tryz.prog 124 Qt6 = true := by kernel_rfl
theorem Qvd : Q7 Tryz.prog 125 Qti = true := by kernel_rfl
theorem Qve : Q7 Tryz.prog 126 Qss = true := by kernel_rfl
theorem Qw2 : Q7 Tryz.prog 128 Qsw = true := by kernel_rfl
theorem Qvr : Q7 Tryz.prog 129 Qtk = true := by kernel_rfl
theorem Qv0 : Q7 Tryz.prog 130 Qta = true := by kernel_rfl
theorem Que : Q7 Tryz.prog 131 Qt8 = true := by kernel_rfl
theorem Qw1 : Q7 Tryz.prog 132 Qt3 = true := by kernel_rfl
end
end Go.Av
namespace Go.Av
noncomputable section
open Go.Proofs
set_option maxRecDepth 100000
theorem Quz : Q7 Tryz.prog 133 Qsx = true := by kernel_rfl
theorem Qva : Q7 Tryz.prog 134 Qtm = true := by kernel_rfl
theorem Qvi : Q7 Tryz.prog 135 Qtj = true := by kernel_rfl
theorem Qv9 : Q7 Tryz.prog 136 Qu5 = true := by kernel_rfl
theorem Qvv : Q7 Tryz.prog 137 Qts = true := by kernel_rfl
theorem Qvh : Q7 Tryz.prog 138 Qsv = true := by kernel_rfl
theorem Qrv : Q7 Tryz.prog 142 Qtg = true := by kernel_rfl
theorem Qur : Q7 Tryz.prog 143 Qu3 = true := by kernel_rfl
theorem Qv6 : Q7 Tryz.prog 144 Qu0 = true := by kernel_rfl
theorem Qud : Q7 Tryz.prog 145 Qtp = true := by kernel_rfl
theorem Qv8 : Q7 Tryz.prog 146 Qtx = true := by kernel_rfl
theorem Qw4 : Q7 Tryz.prog 147 Qu7 = true := by kernel_rfl
theorem Qug : Q7 Tryz.prog 148 Qtl = true := by kernel_rfl
theorem Qr8 : Q7 Tryz.prog 149 Qt7 = true := by kernel_rfl
theorem Qun : Q7 Tryz.prog 153 Qto = true := by kernel_rfl
theorem Qw9 : Q7 Tryz.prog 154 Qsy = true := by kernel_rfl
theorem Qvy : Q7 Tryz.prog 155 Qtz = true := by kernel_rfl
theorem Qvo : Q7 Tryz.prog 157 Qt1 = true := by kernel_rfl
theorem Quq : Q7 Tryz.prog 158 Qu1 = true := by kernel_rfl
theorem Qw0 : Q7 Tryz.prog 159 Qlg = true := by kernel_rfl
end
end Go.Av
namespace Go.Av
noncomputable section
open Go.Proofs
set_option maxRecDepth 100000
end
end Go.Av

