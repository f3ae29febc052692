/- The law. Part of a proof of a given statement: for every input the law returns true and the arguments read as before; no condition beyond the given row. -/
import Derived.Test.YtkemhhfbpniioaaGreatDoorLiftTy
import Derived.Test.YtkemhhfbpniioaaGreatDoorChks
import Derived.Test.YtkemhhfbpniioaaGreatDoorSeat1
import Derived.Test.YtkemhhfbpniioaaGreatDoorAvClosed4
import Derived.KernelRfl
import Derived.Test.YtkemhhfbpniioaaGreatDoorCodes
namespace Go.Av
noncomputable section
open Go.Proofs
set_option maxRecDepth 1000000
section
end
end
end Go.Av
namespace Go.Av
noncomputable section
open Go.Proofs
theorem Qjx {P : Program} {Gl : Nat → Option (List PV)} {f : Nat} {args : List PV} (e : Nat) (h : Zp P Gl f args .nilSlice) : Zp P Gl f args (.slice e []) := by
 refine ⟨h.1, fun bad w cargs h1 h2 h3 h4 => (h.2 bad w cargs h1 h2 h3 h4).mono ?_⟩
 rintro x w' ⟨cr, rfl, q1, q2⟩
 refine ⟨cr, rfl, ?_, q2⟩
 cases q1
 exact .sliceE e none 0
def Q01 (_N : Nat) (kind : Int) : Option (List Int) := some (X4 kind)
theorem Q5d {N : Nat} {kind : Int} {r : List Int} (h : Q01 N kind = some r) : Zp Tryz.prog G1 117 [.int .i64 kind] (.slice 1 (U2 (cI .i64) r)) := by
 have hr := Ql h
 subst hr
 have hc := Qiz kind
 unfold Xr at hc
 cases hq : X4 kind with
 | nil => rw [hq] at hc; exact Qjx 1 hc
 | cons c l => rw [hq] at hc; exact hc
def ofS (code : Int) : Qh := ⟨(ofT code).1, (ofT code).2.1, (ofT code).2.2.1, (ofT code).2.2.2.1, (ofT code).2.2.2.2⟩
def Yw (_N : Nat) (code : Int) : Option (Qh × Bool) := some (ofS code, ofB code)
theorem U4 {N : Nat} {code : Int} {r : Qh × Bool} (h : Yw N code = some r) : Zp Tryz.prog G1 107 [.int .i64 code] (.tuple [.agg (Qh.cells r.1), .bool r.2]) := by
 have hr := Ql h
 subst hr
 exact Qph code
end
end Go.Av
