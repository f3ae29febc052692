/- Part of the proof of FrommqttBack: for every input the law returns true; no condition. -/
import Derived.Test.YteblaejaahpnaaaGreatDoorAvMeth
import Derived.Test.YteblaejaahpnaaaGreatDoorAvTrans
import Derived.Test.YteblaejaahpnaaaGreatDoorAvDraws
import Derived.Test.YteblaejaahpnaaaGreatDoorAvClosed4
set_option linter.all false
namespace Go.Av
noncomputable section
section
variable {P:Program} {Gl:Nat→Option (List PV)}
@[reducible] def clo (f a:Nat):AV := .func (.func f) [] [.ptr a 0]
def Zsu (P:Program) (Gl:Nat→Option (List PV)) (f:Nat) (args:List PV) (r:PV):Prop:=
 ∀ (H:List AObj) (a:Nat),H[a]? = some (.cells [clo f a])→∀ vs,FrzL (fun _=>False) H vs args →
  U7 P Gl f (vs ++ [.ptr a 0]) H (fun v H'=>v = .p r∧H'=H)
end
end
end Go.Av
namespace Go.Av
noncomputable section
section
variable {P:Program} {Gl:Nat→Option (List PV)}
theorem Qtn {f:Nat} {args:List AV} {pargs:List PV} {r:PV} {H:List AObj} {k:AV→List AObj→List Nat→List Nat→Prop} (hp:Qci P Gl f pargs r) (R:List Nat) (hf:FrzL (fun a=>a∈R) H args pargs)
  (hr:Q86 r=true) (hk:k (.p r) H R []):Gu P Gl f args H k:=
 .inl ⟨R,[],.p r,fun s h=>(by cases h),fun H2 hH2=>Qe5 hp ⟨hf.1,fun i v x hv hx=>Qht (fun a o ha ho=>⟨trivial,hH2 a ha o ho⟩) (hf.2 i v x hv hx)⟩ hr ⟨rfl,rfl⟩,hk⟩
end
end
end Go.Av
