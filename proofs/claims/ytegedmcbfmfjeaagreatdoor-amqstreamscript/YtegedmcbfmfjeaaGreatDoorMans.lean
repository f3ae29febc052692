/- The law. Part of a proof of a given statement: for every input the law returns true and the arguments read as before; no condition beyond the given row. -/
import Derived.Test.YtegedmcbfmfjeaaGreatDoorLiftTy
import Derived.Test.YtegedmcbfmfjeaaGreatDoorChks
import Derived.Test.YtegedmcbfmfjeaaGreatDoorSeat1
import Derived.Test.YtegedmcbfmfjeaaGreatDoorAvClosed4
import Derived.KernelRfl
import Derived.Test.YtegedmcbfmfjeaaGreatDoorCodes
namespace Go.Av
noncomputable section
open Go.Proofs
set_option maxRecDepth 1000000
section
end
end
end Go.Av
namespace Go.Av
noncomputable section
open Go.Proofs
def ofS (code : Int) : Qh := ⟨(ofT code).1, (ofT code).2.1, (ofT code).2.2.1, (ofT code).2.2.2.1, (ofT code).2.2.2.2⟩
def Wo (_N : Nat) (code : Int) : Option (Qh × Bool) := some (ofS code, ofB code)
theorem Jc {N : Nat} {code : Int} {r : Qh × Bool} (h : Wo N code = some r) : Xe Tryz.prog G1 81 [.int .i64 code] (.tuple [.agg (Qh.cells r.1), .bool r.2]) := by
 have hr := Qa h
 subst hr
 exact Qo6 code
end
end Go.Av
