/- Part of the proof of VerdictNames: for every input the law returns true; no condition. -/
import Derived.Test.YtkoplndinjflaaaGreatDoorKn1
import Derived.Test.YtkoplndinjflaaaGreatDoorClosed5
import Derived.KernelRfl
namespace Go.Av
noncomputable section
open Go.Proofs
set_option maxRecDepth 1000000
theorem Q7h : Q63 Tryz.prog G1 3 [] (.bool true) := Q1m Qam (N := 10000) (d := 80) (by kernel_rfl)
end
end Go.Av
