/- Part of the proof of VerdictNames: for every input the law returns true; no condition. -/
import Derived.Test.YtkoplndinjflaaaGreatDoorAvCtr
import Derived.Test.YtkoplndinjflaaaGreatDoorAvClosed4
namespace Go.Av
noncomputable section
universe u
theorem Env.c1 {α : Type u} (E : Env α) : E.cmp.1 = Q6z := E.cmp.2
section
variable {P : Program} {Gl : Nat → Option (List PV)}
end
end
end Go.Av
