/- The law. Part of a proof of a given statement: for every input the law returns true and the arguments read as before; no condition beyond the given row. -/
import Derived.Test.YtkemhhfbpniioaaGreatDoorLiftTy
import Derived.Test.YtkemhhfbpniioaaGreatDoorChks
import Derived.Test.YtkemhhfbpniioaaGreatDoorSeat1
import Derived.Test.YtkemhhfbpniioaaGreatDoorAvClosed4
import Derived.KernelRfl
import Derived.Test.YtkemhhfbpniioaaGreatDoorCodes
namespace Go.Av
noncomputable section
open Go.Proofs
set_option maxRecDepth 1000000
section
end
end
end Go.Av
namespace Go.Av
noncomputable section
open Go.Proofs
theorem Qm6 {P : Program} {Gl : Nat → Option (List PV)} {f : Nat} {args : List PV} (e : Nat) (h : Zx P Gl f args .nilSlice) : Zx P Gl f args (.slice e []) := by
 refine ⟨h.1, fun bad w cargs h1 h2 h3 h4 => (h.2 bad w cargs h1 h2 h3 h4).mono ?_⟩
 rintro x w' ⟨cr, rfl, q1, q2⟩
 refine ⟨cr, rfl, ?_, q2⟩
 cases q1
 exact .sliceE e none 0
def Gq (_N : Nat) (kind : Int) : Option (List Int) := some (Xp kind)
theorem Q4v {N : Nat} {kind : Int} {r : List Int} (h : Gq N kind = some r) : Zx Tryz.prog G1 117 [.int .i64 kind] (.slice 1 (G2 (cI .i64) r)) := by
 have hr := Qb h
 subst hr
 have hc := Qlb kind
 unfold Xe at hc
 cases hq : Xp kind with
 | nil => rw [hq] at hc; exact Qm6 1 hc
 | cons c l => rw [hq] at hc; exact hc
def ofS (code : Int) : X5 := ⟨(ofT code).1, (ofT code).2.1, (ofT code).2.2.1, (ofT code).2.2.2.1, (ofT code).2.2.2.2⟩
def Qy (_N : Nat) (code : Int) : Option (X5 × Bool) := some (ofS code, ofB code)
theorem Xb {N : Nat} {code : Int} {r : X5 × Bool} (h : Qy N code = some r) : Zx Tryz.prog G1 107 [.int .i64 code] (.tuple [.agg (X5.cells r.1), .bool r.2]) := by
 have hr := Qb h
 subst hr
 exact Qrq code
end
end Go.Av
