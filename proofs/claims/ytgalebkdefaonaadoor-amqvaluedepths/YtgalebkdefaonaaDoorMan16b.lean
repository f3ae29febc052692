/- The law. Part of a proof of a given statement: for every input the law returns true and the arguments read as before; no condition beyond the given row. -/
import Derived.Test.YtgalebkdefaonaaDoorCodes
import Derived.Test.YtgalebkdefaonaaDoorLiftTy
namespace Go.Av
noncomputable section
open Go.Proofs
/-- a nil list is an empty one -/
theorem pure_nilS {P : Program} {Gl : Nat → Option (List PV)} {f : Nat} {args : List PV} (e : Nat) (h : Pure P Gl f args .nilSlice) : Pure P Gl f args (.slice e []) := by
  refine ⟨h.1, fun bad w cargs h1 h2 h3 h4 => (h.2 bad w cargs h1 h2 h3 h4).mono ?_⟩
  rintro x w' ⟨cr, rfl, q1, q2⟩
  refine ⟨cr, rfl, ?_, q2⟩
  cases q1
  exact .sliceE e none 0
def F_amqprim_Codes (_N : Nat) (kind : Int) : Option (List Int) := some (codesF kind)
theorem F_amqprim_Codes_ok {N : Nat} {kind : Int} {r : List Int} (h : F_amqprim_Codes N kind = some r) : Pure Tryd.prog G1 16 [.int .i64 kind] (.slice 1 (rowsC (cI .i64) r)) := by
  have hr := someO h
  subst hr
  have hc := codes_ctr kind
  unfold codesPV at hc
  cases hq : codesF kind with
  | nil => rw [hq] at hc; exact pure_nilS 1 hc
  | cons c l => rw [hq] at hc; exact hc
def ofS (code : Int) : SCtor := ⟨(ofT code).1, (ofT code).2.1, (ofT code).2.2.1, (ofT code).2.2.2.1, (ofT code).2.2.2.2⟩
def F_amqprim_Of (_N : Nat) (code : Int) : Option (SCtor × Bool) := some (ofS code, ofB code)
theorem F_amqprim_Of_ok {N : Nat} {code : Int} {r : SCtor × Bool} (h : F_amqprim_Of N code = some r) : Pure Tryd.prog G1 19 [.int .i64 code] (.tuple [.agg (SCtor.cells r.1), .bool r.2]) := by
  have hr := someO h
  subst hr
  exact of_ctr2 code
end
end Go.Av
