/- The law. Part of a proof of a given statement: for every input the law returns true and the arguments read as before; no condition beyond the given row. -/
import Derived.Test.YtgalebkdefaonaaDoorCodes
import Derived.Test.YtgalebkdefaonaaDoorLiftTy
namespace Go.Av
noncomputable section
open Go.Proofs
def ofS (code : Int) : SCtor := ⟨(ofT code).1, (ofT code).2.1, (ofT code).2.2.1, (ofT code).2.2.2.1, (ofT code).2.2.2.2⟩
def FapOf (_N : Nat) (code : Int) : Option (SCtor × Bool) := some (ofS code, ofB code)
theorem FapOf_ok {N : Nat} {code : Int} {r : SCtor × Bool} (h : FapOf N code = some r) : Pure Tryd.prog G1 19 [.int .i64 code] (.tuple [.agg (SCtor.cells r.1), .bool r.2]) := by
 have hr := someO h
 subst hr
 exact of_ctr2 code
end
end Go.Av
