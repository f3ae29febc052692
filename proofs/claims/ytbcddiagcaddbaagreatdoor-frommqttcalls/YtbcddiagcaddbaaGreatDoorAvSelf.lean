/- Part of FrommqttCalls: the law returns true; no condition. -/
import Derived.Test.YtbcddiagcaddbaaGreatDoorAvMeth
import Derived.Test.YtbcddiagcaddbaaGreatDoorAvLook
import Derived.Test.YtbcddiagcaddbaaGreatDoorAvDraws
import Derived.Test.YtbcddiagcaddbaaGreatDoorAvClosed4
set_option linter.all false
namespace Go.Av
noncomputable section
section
variable {P:Program} {Gl:Nat->Option (List PV)}
@[reducible] def clo (f a:Nat):AV := .func (.func f) [] [.ptr a 0]
def Zur (P:Program) (Gl:Nat->Option (List PV)) (f:Nat) (args:List PV) (r:PV):Prop:=
 ∀ (H:List AObj) (a:Nat),H[a]? = some (.cells [clo f a])->∀ vs,FrzL (fun _=>False) H vs args ->
  Ue P Gl f (vs ++ [.ptr a 0]) H (fun v H'=>v = .p r∧H'=H)
end
end
end Go.Av
namespace Go.Av
noncomputable section
section
variable {P:Program} {Gl:Nat->Option (List PV)}
theorem Qtp {f:Nat} {args:List AV} {pargs:List PV} {r:PV} {H:List AObj} {k:AV->List AObj->List Nat->List Nat->Prop} (hp:Qd9 P Gl f pargs r) (R:List Nat) (hf:FrzL (fun a=>a∈R) H args pargs)
  (hr:Q8m r=true) (hk:k (.p r) H R []):Q06 P Gl f args H k:=
 .inl ⟨R,[],.p r,fun s h=>(by cases h),fun H2 hH2=>Qf6 hp ⟨hf.1,fun i v x hv hx=>Qil (fun a o ha ho=>⟨trivial,hH2 a ha o ho⟩) (hf.2 i v x hv hx)⟩ hr ⟨rfl,rfl⟩,hk⟩
end
end
end Go.Av
