/- Part of the proof of VerdictNames: for every input the law returns true; no condition. -/
import Derived.Test.YtkoplndinjflaaaGreatDoorAvTrans
import Derived.Test.YtkoplndinjflaaaGreatDoorAvDraws
import Derived.Test.YtkoplndinjflaaaGreatDoorAvClosed4
namespace Go.Av
noncomputable section
section
variable {P : Program} {Gl : Nat → Option (List PV)}
end
end
end Go.Av
