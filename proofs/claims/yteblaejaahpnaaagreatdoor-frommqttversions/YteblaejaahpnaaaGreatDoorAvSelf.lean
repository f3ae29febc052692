/- Part of the proof of FrommqttVersions: for every input the law returns true; no condition. -/
import Derived.Test.YteblaejaahpnaaaGreatDoorAvMeth
import Derived.Test.YteblaejaahpnaaaGreatDoorAvTrans
import Derived.Test.YteblaejaahpnaaaGreatDoorAvDraws
import Derived.Test.YteblaejaahpnaaaGreatDoorAvClosed4
set_option linter.all false
namespace Go.Av
noncomputable section
section
variable {P:Program} {Gl:Nat→Option (List PV)}
@[reducible] def clo (f a:Nat):AV := .func (.func f) [] [.ptr a 0]
def Zca (P:Program) (Gl:Nat→Option (List PV)) (f:Nat) (args:List PV) (r:PV):Prop:=
 ∀ (H:List AObj) (a:Nat),H[a]? = some (.cells [clo f a])→∀ vs,FrzL (fun _=>False) H vs args →
  Xf P Gl f (vs ++ [.ptr a 0]) H (fun v H'=>v = .p r∧H'=H)
end
end
end Go.Av
namespace Go.Av
noncomputable section
section
variable {P:Program} {Gl:Nat→Option (List PV)}
end
end
end Go.Av
