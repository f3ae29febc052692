/- The law. Part of a proof of a given statement: for every input the law returns true and the arguments read as before; no condition beyond the given row. -/
import Derived.Test.YtkemhhfbpniioaaGreatDoorCode1
import Derived.Test.YtkemhhfbpniioaaGreatDoorAvChk
import Derived.KernelRfl
import Derived.Test.YtkemhhfbpniioaaGreatDoorProg
namespace Go.Av
noncomputable section
open Go.Proofs
set_option maxRecDepth 100000
theorem k3 : Q7 Tryz.prog 3 c3 = true := by kernel_rfl
theorem k4 : Q7 Tryz.prog 4 c4 = true := by kernel_rfl
theorem k5 : Q7 Tryz.prog 5 c5 = true := by kernel_rfl
theorem k6 : Q7 Tryz.prog 6 c6 = true := by kernel_rfl
theorem k7 : Q7 Tryz.prog 7 c7 = true := by kernel_rfl
theorem k9 : Q7 Tryz.prog 9 c9 = true := by kernel_rfl
theorem k13 : Q7 Tryz.prog 13 c13 = true := by kernel_rfl
theorem k15 : Q7 Tryz.prog 15 c15 = true := by kernel_rfl
theorem k16 : Q7 Tryz.prog 16 c16 = true := by kernel_rfl
theorem k17 : Q7 Tryz.prog 17 c17 = true := by kernel_rfl
theorem k18 : Q7 Tryz.prog 18 c18 = true := by kernel_rfl
theorem k19 : Q7 Tryz.prog 19 c19 = true := by kernel_rfl
theorem k20 : Q7 Tryz.prog 20 c20 = true := by kernel_rfl
end
end Go.Av
namespace Go.Av
noncomputable section
open Go.Proofs
set_option maxRecDepth 100000
theorem k21 : Q7 Tryz.prog 21 c21 = true := by kernel_rfl
theorem k23 : Q7 Tryz.prog 23 c23 = true := by kernel_rfl
theorem k24 : Q7 Tryz.prog 24 c24 = true := by kernel_rfl
theorem k25 : Q7 Tryz.prog 25 c25 = true := by kernel_rfl
theorem k26 : Q7 Tryz.prog 26 c26 = true := by kernel_rfl
theorem k27 : Q7 Tryz.prog 27 c27 = true := by kernel_rfl
theorem k28 : Q7 Tryz.prog 28 c28 = true := by kernel_rfl
theorem k31 : Q7 Tryz.prog 31 c31 = true := by kernel_rfl
theorem k32 : Q7 Tryz.prog 32 c32 = true := by kernel_rfl
theorem k33 : Q7 Tryz.prog 33 c33 = true := by kernel_rfl
theorem k34 : Q7 Tryz.prog 34 c34 = true := by kernel_rfl
theorem k36 : Q7 Tryz.prog 36 c36 = true := by kernel_rfl
theorem k37 : Q7 Tryz.prog 37 c37 = true := by kernel_rfl
theorem k38 : Q7 Tryz.prog 38 c38 = true := by kernel_rfl
theorem k40 : Q7 Tryz.prog 40 c40 = true := by kernel_rfl
theorem k41 : Q7 Tryz.prog 41 c41 = true := by kernel_rfl
theorem k42 : Q7 Tryz.prog 42 c42 = true := by kernel_rfl
theorem k45 : Q7 Tryz.prog 45 c45 = true := by kernel_rfl
theorem k46 : Q7 Tryz.prog 46 c46 = true := by kernel_rfl
theorem k47 : Q7 Tryz.prog 47 c47 = true := by kernel_rfl
theorem k48 : Q7 Tryz.prog 48 c48 = true := by kernel_rfl
theorem k49 : Q7 Tryz.prog 49 c49 = true := by kernel_rfl
theorem k50 : Q7 Tryz.prog 50 c50 = true := by kernel_rfl
theorem k51 : Q7 Tryz.prog 51 c51 = true := by kernel_rfl
theorem k53 : Q7 Tryz.prog 53 c53 = true := by kernel_rfl
theorem k54 : Q7 Tryz.prog 54 c54 = true := by kernel_rfl
theorem k55 : Q7 Tryz.prog 55 c55 = true := by kernel_rfl
theorem k56 : Q7 Tryz.prog 56 c56 = true := by kernel_rfl
theorem k57 : Q7 Tryz.prog 57 c57 = true := by kernel_rfl
theorem k58 : Q7 Tryz.prog 58 c58 = true := by kernel_rfl
theorem k59 : Q7 Tryz.prog 59 c59 = true := by kernel_rfl
end
end Go.Av
namespace Go.Av
noncomputable section
open Go.Proofs
set_option maxRecDepth 100000
theorem k60 : Q7 Tryz.prog 60 c60 = true := by kernel_rfl
theorem k61 : Q7 Tryz.prog 61 c61 = true := by kernel_rfl
theorem k62 : Q7 Tryz.prog 62 c62 = true := by kernel_rfl
theorem k63 : Q7 Tryz.prog 63 c63 = true := by kernel_rfl
theorem k64 : Q7 Tryz.prog 64 c64 = true := by kernel_rfl
theorem k65 : Q7 Tryz.prog 65 c65 = true := by kernel_rfl
theorem k66 : Q7 Tryz.prog 66 c66 = true := by kernel_rfl
theorem k67 : Q7 Tryz.prog 67 c67 = true := by kernel_rfl
theorem k68 : Q7 Tryz.prog 68 c68 = true := by kernel_rfl
theorem k69 : Q7 Tryz.prog 69 c69 = true := by kernel_rfl
theorem k70 : Q7 Tryz.prog 70 c70 = true := by kernel_rfl
theorem k71 : Q7 Tryz.prog 71 c71 = true := by kernel_rfl
theorem k72 : Q7 Tryz.prog 72 c72 = true := by kernel_rfl
theorem k73 : Q7 Tryz.prog 73 c73 = true := by kernel_rfl
theorem k74 : Q7 Tryz.prog 74 c74 = true := by kernel_rfl
theorem k75 : Q7 Tryz.prog 75 c75 = true := by kernel_rfl
theorem k76 : Q7 Tryz.prog 76 c76 = true := by kernel_rfl
theorem k77 : Q7 Tryz.prog 77 c77 = true := by kernel_rfl
theorem k78 : Q7 Tryz.prog 78 c78 = true := by kernel_rfl
theorem k79 : Q7 Tryz.prog 79 c79 = true := by kernel_rfl
theorem k80 : Q7 Tryz.prog 80 c80 = true := by kernel_rfl
theorem k81 : Q7 Tryz.prog 81 c81 = true := by kernel_rfl
theorem k82 : Q7 Tryz.prog 82 c82 = true := by kernel_rfl
theorem k83 : Q7 Tryz.prog 83 c83 = true := by kernel_rfl
theorem k84 : Q7 Tryz.prog 84 c84 = true := by kernel_rfl
theorem k85 : Q7 Tryz.prog 85 c85 = true := by kernel_rfl
theorem k86 : Q7 Tryz.prog 86 c86 = true := by kernel_rfl
theorem k87 : Q7 Tryz.prog 87 c87 = true := by kernel_rfl
theorem k88 : Q7 Tryz.prog 88 c88 = true := by kernel_rfl
theorem k89 : Q7 Tryz.prog 89 c89 = true := by kernel_rfl
theorem k90 : Q7 Tryz.prog 90 c90 = true := by kernel_rfl
theorem k91 : Q7 Tryz.prog 91 c91 = true := by kernel_rfl
theorem k92 : Q7 Tryz.prog 92 c92 = true := by kernel_rfl
theorem k93 : Q7 Tryz.prog 93 c93 = true := by kernel_rfl
theorem k94 : Q7 Tryz.prog 94 c94 = true := by kernel_rfl
theorem k95 : Q7 Tryz.prog 95 c95 = true := by kernel_rfl
theorem k96 : Q7 Tryz.prog 96 c96 = true := by kernel_rfl
theorem k97 : Q7 Tryz.prog 97 c97 = true := by kernel_rfl
theorem k98 : Q7 Tryz.prog 98 c98 = true := by kernel_rfl
end
end Go.Av
namespace Go.Av
noncomputable section
open Go.Proofs
set_option maxRecDepth 100000
theorem k99 : Q7 Tryz.prog 99 c99 = true := by kernel_rfl
theorem Z4r : Q7 Tryz.prog 100 Z2g = true := by kernel_rfl
theorem Qzp : Q7 Tryz.prog 101 Z2f = true := by kernel_rfl
theorem Qpd : Q7 Tryz.prog 102 Z0s = true := by kernel_rfl
theorem Z2q : Q7 Tryz.prog 103 Z1f = true := by kernel_rfl
theorem Z3b : Q7 Tryz.prog 104 Z1r = true := by kernel_rfl
theorem Z2p : Q7 Tryz.prog 105 Z1o = true := by kernel_rfl
theorem Z2o : Q7 Tryz.prog 106 Z28 = true := by kernel_rfl
theorem Z3i : Q7 Tryz.prog 107 Z11 = true := by kernel_rfl
theorem Z4j : Q7 Tryz.prog 108 Z26 = true := by kernel_rfl
theorem Z3e : Q7 Tryz.prog 109 Z0w = true := by kernel_rfl
theorem Z3j : Q7 Tryz.prog 110 Z1q = true := by kernel_rfl
theorem Z3d : Q7 Tryz.prog 111 Z0t = true := by kernel_rfl
theorem Z2z : Q7 Tryz.prog 112 Z1b = true := by kernel_rfl
theorem Z3h : Q7 Tryz.prog 113 Z1g = true := by kernel_rfl
theorem Z3u : Q7 Tryz.prog 114 Z13 = true := by kernel_rfl
theorem Z36 : Q7 Tryz.prog 115 Z14 = true := by kernel_rfl
theorem Z2w : Q7 Tryz.prog 116 Z19 = true := by kernel_rfl
theorem Z33 : Q7 Tryz.prog 117 Z1c = true := by kernel_rfl
theorem Z41 : Q7 Tryz.prog 118 Z1i = true := by kernel_rfl
theorem Z4q : Q7 Tryz.prog 119 Z1z = true := by kernel_rfl
theorem Z2l : Q7 Tryz.prog 120 Z1d = true := by kernel_rfl
theorem Z2s : Q7 Tryz.prog 121 Z1w = true := by kernel_rfl
theorem Z4u : Q7 Tryz.prog 122 Z2d = true := by kernel_rfl
theorem Z3p : Q7 Tryz.prog 123 Z18 = true := by kernel_rfl
theorem Z34 : Q7 Tryz.prog 124 Z24 = true := by kernel_rfl
theorem Z2n : Q7 Tryz.prog 125 Z0n = true := by kernel_rfl
theorem Z4c : Q7 Tryz.prog 126 Z1j = true := by kernel_rfl
theorem Z42 : Q7 Tryz.prog 128 Z1l = true := by kernel_rfl
theorem Z2i : Q7 Tryz.prog 129 Z1k = true := by kernel_rfl
theorem Z4d : Q7 Tryz.prog 130 Z23 = true := by kernel_rfl
theorem Z3o : Q7 Tryz.prog 131 Z2a = true := by kernel_rfl
theorem Z2m : Q7 Tryz.prog 132 Z1u = true := by kernel_rfl
end
end Go.Av
namespace Go.Av
noncomputable section
open Go.Proofs
set_option maxRecDepth 100000
theorem Z3a : Q7 Tryz.prog 133 Z16 = true := by kernel_rfl
theorem Z4k : Q7 Tryz.prog 134 Z25 = true := by kernel_rfl
theorem Z3r : Q7 Tryz.prog 135 Z17 = true := by kernel_rfl
theorem Z35 : Q7 Tryz.prog 136 Z0u = true := by kernel_rfl
theorem Z45 : Q7 Tryz.prog 137 Z1m = true := by kernel_rfl
theorem Z49 : Q7 Tryz.prog 138 Z0o = true := by kernel_rfl
theorem Z37 : Q7 Tryz.prog 141 Z0r = true := by kernel_rfl
theorem Qzv : Q7 Tryz.prog 142 Z10 = true := by kernel_rfl
theorem Z4l : Q7 Tryz.prog 143 Z0y = true := by kernel_rfl
theorem Z40 : Q7 Tryz.prog 144 Z2e = true := by kernel_rfl
theorem Z46 : Q7 Tryz.prog 145 Z0p = true := by kernel_rfl
theorem Z44 : Q7 Tryz.prog 146 Z1a = true := by kernel_rfl
theorem Z4t : Q7 Tryz.prog 147 Z2b = true := by kernel_rfl
theorem Z3z : Q7 Tryz.prog 148 Z21 = true := by kernel_rfl
theorem Qz5 : Q7 Tryz.prog 149 Z0q = true := by kernel_rfl
theorem Z4p : Q7 Tryz.prog 153 Z15 = true := by kernel_rfl
theorem Z4n : Q7 Tryz.prog 154 Z1e = true := by kernel_rfl
theorem Z39 : Q7 Tryz.prog 155 Z1x = true := by kernel_rfl
theorem Z3l : Q7 Tryz.prog 157 Z1y = true := by kernel_rfl
theorem Z3k : Q7 Tryz.prog 158 Z2h = true := by kernel_rfl
theorem Z3w : Q7 Tryz.prog 159 Qsv = true := by kernel_rfl
end
end Go.Av
namespace Go.Av
noncomputable section
open Go.Proofs
set_option maxRecDepth 100000
end
end Go.Av

