/- The law. Part of a proof of a given statement: for every input the law returns true and the arguments read as before; no condition beyond the given row. -/
import Derived.Test.YtkemhhfbpniioaaGreatDoorLiftTy
import Derived.Test.YtkemhhfbpniioaaGreatDoorChks
import Derived.Test.YtkemhhfbpniioaaGreatDoorSeat1
import Derived.Test.YtkemhhfbpniioaaGreatDoorAvClosed4
import Derived.KernelRfl
import Derived.Test.YtkemhhfbpniioaaGreatDoorCodes
namespace Go.Av
noncomputable section
open Go.Proofs
set_option maxRecDepth 1000000
section
end
end
end Go.Av
namespace Go.Av
noncomputable section
open Go.Proofs
theorem Qlq {P : Program} {Gl : Nat → Option (List PV)} {f : Nat} {args : List PV} (e : Nat) (h : Zo P Gl f args .nilSlice) : Zo P Gl f args (.slice e []) := by
 refine ⟨h.1, fun bad w cargs h1 h2 h3 h4 => (h.2 bad w cargs h1 h2 h3 h4).mono ?_⟩
 rintro x w' ⟨cr, rfl, q1, q2⟩
 refine ⟨cr, rfl, ?_, q2⟩
 cases q1
 exact .sliceE e none 0
def Q0o (_N : Nat) (kind : Int) : Option (List Int) := some (Vl kind)
theorem Q6a {N : Nat} {kind : Int} {r : List Int} (h : Q0o N kind = some r) : Zo Tryz.prog G1 117 [.int .i64 kind] (.slice 1 (Vo (cI .i64) r)) := by
 have hr := Zn h
 subst hr
 have hc := Qlf kind
 unfold Xw at hc
 cases hq : Vl kind with
 | nil => rw [hq] at hc; exact Qlq 1 hc
 | cons c l => rw [hq] at hc; exact hc
def ofS (code : Int) : Qk := ⟨(ofT code).1, (ofT code).2.1, (ofT code).2.2.1, (ofT code).2.2.2.1, (ofT code).2.2.2.2⟩
def X2 (_N : Nat) (code : Int) : Option (Qk × Bool) := some (ofS code, ofB code)
theorem Uu {N : Nat} {code : Int} {r : Qk × Bool} (h : X2 N code = some r) : Zo Tryz.prog G1 107 [.int .i64 code] (.tuple [.agg (Qk.cells r.1), .bool r.2]) := by
 have hr := Zn h
 subst hr
 exact Qr6 code
end
end Go.Av
