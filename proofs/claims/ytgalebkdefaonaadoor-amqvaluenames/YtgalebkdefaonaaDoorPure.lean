/- The law. Part of the proof of the given statement AmqvalueNames: for every input the law returns true and the arguments read as before; no condition beyond the given row. -/
import Derived.Test.YtgalebkdefaonaaDoorTab
namespace Go.Av
noncomputable section
open Go.Proofs
set_option maxRecDepth 1000000
theorem pure_law : Pure Tryd.prog G1 10 [] (.bool true) := pure_closed2 kn1_ok (N := 1000) (d := 40) (by kernel_rfl)
end
end Go.Av
