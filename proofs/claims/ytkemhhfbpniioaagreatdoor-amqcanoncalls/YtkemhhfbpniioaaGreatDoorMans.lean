/- The law. Part of a proof of a given statement: for every input the law returns true and the arguments read as before; no condition beyond the given row. -/
import Derived.Test.YtkemhhfbpniioaaGreatDoorLiftTy
import Derived.Test.YtkemhhfbpniioaaGreatDoorChks
import Derived.Test.YtkemhhfbpniioaaGreatDoorSeat1
import Derived.Test.YtkemhhfbpniioaaGreatDoorAvClosed4
import Derived.KernelRfl
import Derived.Test.YtkemhhfbpniioaaGreatDoorCodes
namespace Go.Av
noncomputable section
open Go.Proofs
set_option maxRecDepth 1000000
section
end
end
end Go.Av
namespace Go.Av
noncomputable section
open Go.Proofs
theorem Qoi {P : Program} {Gl : Nat → Option (List PV)} {f : Nat} {args : List PV} (e : Nat) (h : Qz P Gl f args .nilSlice) : Qz P Gl f args (.slice e []) := by
 refine ⟨h.1, fun bad w cargs h1 h2 h3 h4 => (h.2 bad w cargs h1 h2 h3 h4).mono ?_⟩
 rintro x w' ⟨cr, rfl, q1, q2⟩
 refine ⟨cr, rfl, ?_, q2⟩
 cases q1
 exact .sliceE e none 0
def Q24 (_N : Nat) (kind : Int) : Option (List Int) := some (Ux kind)
theorem Q7w {N : Nat} {kind : Int} {r : List Int} (h : Q24 N kind = some r) : Qz Tryz.prog G1 117 [.int .i64 kind] (.slice 1 (J3 (cI .i64) r)) := by
 have hr := Qc h
 subst hr
 have hc := Qob kind
 unfold V4 at hc
 cases hq : Ux kind with
 | nil => rw [hq] at hc; exact Qoi 1 hc
 | cons c l => rw [hq] at hc; exact hc
def ofS (code : Int) : Qf := ⟨(ofT code).1, (ofT code).2.1, (ofT code).2.2.1, (ofT code).2.2.2.1, (ofT code).2.2.2.2⟩
def Z7 (_N : Nat) (code : Int) : Option (Qf × Bool) := some (ofS code, ofB code)
theorem Wz {N : Nat} {code : Int} {r : Qf × Bool} (h : Z7 N code = some r) : Qz Tryz.prog G1 107 [.int .i64 code] (.tuple [.agg (Qf.cells r.1), .bool r.2]) := by
 have hr := Qc h
 subst hr
 exact Qtk code
end
end Go.Av
