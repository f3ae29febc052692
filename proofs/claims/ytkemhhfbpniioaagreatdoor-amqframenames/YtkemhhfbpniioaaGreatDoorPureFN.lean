/- The law. Part of a proof of a given statement: for every input the law returns true and the arguments read as before; no condition beyond the given row. -/
import Derived.Test.YtkemhhfbpniioaaGreatDoorTabFN
namespace Go.Av
noncomputable section
open Go.Proofs
set_option maxRecDepth 1000000
theorem pure_law : Pure Tryz.prog G1 8 [] (.bool true) := pure_closed2 kn1_ok (N := 1000) (d := 60) (by kernel_rfl)
end
end Go.Av
