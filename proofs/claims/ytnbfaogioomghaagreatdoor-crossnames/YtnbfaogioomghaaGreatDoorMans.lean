/- Part of the proof of CrossNames: for every input the law returns true; no condition. -/
import Derived.Test.YtnbfaogioomghaaGreatDoorLiftTy
import Derived.Test.YtnbfaogioomghaaGreatDoorChks
import Derived.Test.YtnbfaogioomghaaGreatDoorSeat1
import Derived.Test.YtnbfaogioomghaaGreatDoorAvClosed4
import Derived.KernelRfl
import Derived.Test.YtnbfaogioomghaaGreatDoorCodes
namespace Go.Av
noncomputable section
open Go.Proofs
set_option maxRecDepth 1000000
section
end
end
end Go.Av
namespace Go.Av
noncomputable section
open Go.Proofs
theorem Qc7 {P : Program} {Gl : Nat → Option (List PV)} {f : Nat} {args : List PV} (e : Nat) (h : Pure P Gl f args .nilSlice) : Pure P Gl f args (.slice e []) := by
 refine ⟨h.1, fun bad w cargs h1 h2 h3 h4 => (h.2 bad w cargs h1 h2 h3 h4).mono ?_⟩
 rintro x w' ⟨cr, rfl, q1, q2⟩
 refine ⟨cr, rfl, ?_, q2⟩;cases q1;exact .sliceE e none 0 (fun _ => rfl)
def Uy (_N : Nat) (kind : Int) : Option (List Int) := some (Q6w kind)
theorem Q05 {N : Nat} {kind : Int} {r : List Int} (h : Uy N kind = some r) : Pure Tryz.prog G1 161 [.int .i64 kind] (.slice 1 (Zc (cI .i64) r)) := by
 have hr := Yg h;subst hr;have hc := Qcq kind;unfold Qu at hc
 cases hq : Q6w kind with
 | nil => rw [hq] at hc; exact Qc7 1 hc
 | cons c l => rw [hq] at hc; exact hc
def ofS (code : Int) : Q6n := ⟨(ofT code).1, (ofT code).2.1, (ofT code).2.2.1, (ofT code).2.2.2.1, (ofT code).2.2.2.2⟩
def Ve (_N : Nat) (code : Int) : Option (Q6n × Bool) := some (ofS code, ofB code)
theorem V0 {N : Nat} {code : Int} {r : Q6n × Bool} (h : Ve N code = some r) : Pure Tryz.prog G1 133 [.int .i64 code] (.tuple [.agg (Q6n.cells r.1), .bool r.2]) := by
 have hr := Yg h;subst hr;exact Qgk code
end
end Go.Av
