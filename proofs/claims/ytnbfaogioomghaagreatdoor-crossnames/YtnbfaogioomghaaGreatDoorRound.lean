/- Part of the proof of CrossNames: for every input the law returns true; no condition. -/
import Derived.Test.YtnbfaogioomghaaGreatDoorAvJoin
import Derived.Test.YtnbfaogioomghaaGreatDoorAvClosed
import Derived.Test.YtnbfaogioomghaaGreatDoorAvAbb
namespace Go.Av
noncomputable section
section
variable {P : Program} {Gl : Nat → Option (List PV)}
end
end
end Go.Av
namespace Go.Av
noncomputable section
section
variable {P : Program} {Gl : Nat → Option (List PV)} {R T : Type}
end
theorem Qge {R : List Nat} {H : List AObj} (h : (R.all fun a => Nat.blt a H.length) = true) : ∀ a ∈ R, a < H.length := fun a ha => by
 have := Lp.1 h a ha;simpa [Nat.blt_eq] using this
theorem U8 {P : Program} {Gl : Nat → Option (List PV)} {f : Nat} {args : List AV} {pargs : List PV} {r : PV} {H : List AObj} {k : AV → List AObj → List Nat → List Nat → Prop} (hp : Pure P Gl f pargs r) (R : List Nat) (hf : FrzL (fun a => a ∈ R) H args pargs)
  (hR : (R.all fun a => Nat.blt a H.length) = true) (hk : k (.p r) (Xn (R.map fun a => (a, .dead)) H) R R) : Z6 P Gl f args H k := Q0v R hp hf (Qge hR) hk
end
end Go.Av
