/- Part of the proof of CrossNames: for every input the law returns true; no condition. -/
import Derived.Test.YtnbfaogioomghaaGreatDoorPureB
namespace Go.Av
noncomputable section
open Go.Proofs
set_option maxRecDepth 1000000
theorem Qdx : Pure Tryz.prog G1 3 [] (.bool true) := Qo (I := inPlace) Qhn (N := 200) (d := 40) (by kernel_rfl)
end
end Go.Av
