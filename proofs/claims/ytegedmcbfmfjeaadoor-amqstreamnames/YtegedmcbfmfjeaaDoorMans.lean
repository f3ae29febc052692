/- The law. Part of a proof of a given statement: for every input the law returns true and the arguments read as before; no condition beyond the given row. -/
import Derived.Test.YtegedmcbfmfjeaaDoorLiftTy
import Derived.Test.YtegedmcbfmfjeaaDoorChks
import Derived.Test.YtegedmcbfmfjeaaDoorSeat1
import Derived.Test.YtegedmcbfmfjeaaDoorAvClosed4
import Derived.KernelRfl
import Derived.Test.YtegedmcbfmfjeaaDoorCodes
namespace Go.Av
noncomputable section
open Go.Proofs
set_option maxRecDepth 1000000
section
end
end
end Go.Av
namespace Go.Av
noncomputable section
open Go.Proofs
def ofS (code : Int) : Y7 := ⟨(ofT code).1, (ofT code).2.1, (ofT code).2.2.1, (ofT code).2.2.2.1, (ofT code).2.2.2.2⟩
def W9 (_N : Nat) (code : Int) : Option (Y7 × Bool) := some (ofS code, ofB code)
theorem Xn {N : Nat} {code : Int} {r : Y7 × Bool} (h : W9 N code = some r) : Yr Tryd.prog G1 46 [.int .i64 code] (.tuple [.agg (Y7.cells r.1), .bool r.2]) := by
 have hr := Qb h
 subst hr
 exact Qd2 code
end
end Go.Av
