/- Part of the proof of CrossBack: for every input the law returns true; no condition. -/
import Derived.Test.YthdffmbnmkmhlaaGreatDoorLiftTy
import Derived.Test.YthdffmbnmkmhlaaGreatDoorChks
import Derived.Test.YthdffmbnmkmhlaaGreatDoorSeat1
import Derived.Test.YthdffmbnmkmhlaaGreatDoorAvClosed4
import Derived.KernelRfl
import Derived.Test.YthdffmbnmkmhlaaGreatDoorCodes
import Derived.Test.YthdffmbnmkmhlaaGreatDoorAvAbb
namespace Go.Av
noncomputable section
open Go.Proofs
set_option maxRecDepth 1000000
section
end
end
end Go.Av
namespace Go.Av
noncomputable section
open Go.Proofs
theorem Qud {P : Program} {Gl : Nat → Option (List PV)} {f : Nat} {args : List PV} (e : Nat) (h : Q2j P Gl f args .nilSlice) : Q2j P Gl f args (.slice e []) := by
 refine ⟨h.1, fun bad w cargs h1 h2 h3 h4 => (h.2 bad w cargs h1 h2 h3 h4).mono ?_⟩
 rintro x w' ⟨cr, rfl, q1, q2⟩
 refine ⟨cr, rfl, ?_, q2⟩;cases q1;exact .sliceE e none 0 (fun _ => rfl)
def Q3t (_N : Nat) (kind : Int) : Option (List Int) := some (Uy kind)
theorem Qaz {N : Nat} {kind : Int} {r : List Int} (h : Q3t N kind = some r) : Q2j Tryz.prog G1 175 [.int .i64 kind] (.slice 1 (Qd (cI .i64) r)) := by
 have hr := Yg h;subst hr;have hc := Qrz kind;unfold V8 at hc
 cases hq : Uy kind with
 | nil => rw [hq] at hc; exact Qud 1 hc
 | cons c l => rw [hq] at hc; exact hc
def ofS (code : Int) : Qt := ⟨(ofT code).1, (ofT code).2.1, (ofT code).2.2.1, (ofT code).2.2.2.1, (ofT code).2.2.2.2⟩
def Je (_N : Nat) (code : Int) : Option (Qt × Bool) := some (ofS code, ofB code)
theorem Q3x {N : Nat} {code : Int} {r : Qt × Bool} (h : Je N code = some r) : Q2j Tryz.prog G1 138 [.int .i64 code] (.tuple [.agg (Qt.cells r.1), .bool r.2]) := by
 have hr := Yg h;subst hr;exact Z1k code
end
end Go.Av
namespace Go.Av
noncomputable section
section
variable {P : Program} {Gl : Nat → Option (List PV)}
end
end
end Go.Av
