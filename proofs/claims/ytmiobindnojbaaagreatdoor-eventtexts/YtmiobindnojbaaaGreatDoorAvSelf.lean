/- An abstract machine for the modelled code, and what its runs say of real calls. Part of a proof of a given statement: for every input the law returns true and the arguments read as before; no condition beyond the given row. -/
import Derived.Test.YtmiobindnojbaaaGreatDoorAvMeth
namespace Go.Av
noncomputable section
section
variable {P : Program} {Gl : Nat → Option (List PV)}
@[reducible] def clo (f a : Nat) : AV := .func (.func f) [] [.ptr a 0]
def Qpb (P : Program) (Gl : Nat → Option (List PV)) (f : Nat) (args : List PV) (r : PV) : Prop :=
 ∀ (H : List AObj) (a : Nat), H[a]? = some (.cells [clo f a]) → ∀ vs, FrzL (fun _ => False) H vs args →
  Yl P Gl f (vs ++ [.ptr a 0]) H (fun v H' => v = .p r ∧ H' = H)
end
end
end Go.Av
