/- The law. Part of a proof of a given statement: for every input the law returns true and the arguments read as before; no condition beyond the given row. -/
import Derived.Test.YtdlmgpphppgcjaaGreatDoorKn1
import Derived.KernelRfl
namespace Go.Av
noncomputable section
open Go.Proofs
set_option maxRecDepth 1000000
theorem Q5a : Q4y Tryz.prog G1 3 [] (.bool true) := Q0h Q7o (N := 10000) (d := 80) (by kernel_rfl)
end
end Go.Av
