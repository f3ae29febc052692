/- Part of FromsnNames: the law returns true; no condition. -/
import Derived.Test.YtfgpphgmjcnleaaGreatDoorAvMeth
import Derived.Test.YtfgpphgmjcnleaaGreatDoorAvLook
import Derived.Test.YtfgpphgmjcnleaaGreatDoorAvDraws
import Derived.Test.YtfgpphgmjcnleaaGreatDoorAvClosed4
set_option linter.all false
namespace Go.Av
noncomputable section
section
variable {P:Program} {Gl:Nat->Option (List PV)}
@[reducible] def clo (f a:Nat):AV := .func (.func f) [] [.ptr a 0]
def Z9n (P:Program) (Gl:Nat->Option (List PV)) (f:Nat) (args:List PV) (r:PV):Prop:=
 ∀ (H:List AObj) (a:Nat),H[a]? = some (.cells [clo f a])->∀ vs,FrzL (fun _=>False) H vs args ->
  Q8 P Gl f (vs ++ [.ptr a 0]) H (fun v H'=>v = .p r∧H'=H)
end
end
end Go.Av
namespace Go.Av
noncomputable section
section
variable {P:Program} {Gl:Nat->Option (List PV)}
theorem Jv {f:Nat} {args:List AV} {H:List AObj} {r:AV} {k:AV->List AObj->List Nat->List Nat->Prop} (hargs:refsLt.refsLts H.length args=true) (hr:refsLt H.length r=true)
  (hc:Q8 P Gl f args (List.replicate H.length .dead) (fun v _=>v=r)) (hk:k r H [] []):Qv P Gl f args H k:=
 .inl ⟨[],[],r,fun s h=>(by cases h),fun H2 _=>Qo (Qby hargs hr hc H2) (fun _ _ ⟨e1,e2⟩=>⟨e1,e2⟩),hk⟩
theorem Qj8 {f:Nat} {args:List AV} {pargs:List PV} {r:PV} {H:List AObj} {k:AV->List AObj->List Nat->List Nat->Prop} (hp:Q5r P Gl f pargs r) (R:List Nat) (hf:FrzL (fun a=>a∈R) H args pargs)
  (hr:Wf r=true) (hk:k (.p r) H R []):Qv P Gl f args H k:=
 .inl ⟨R,[],.p r,fun s h=>(by cases h),fun H2 hH2=>Q5x hp ⟨hf.1,fun i v x hv hx=>Q7p (fun a o ha ho=>⟨trivial,hH2 a ha o ho⟩) (hf.2 i v x hv hx)⟩ hr ⟨rfl,rfl⟩,hk⟩
end
end
end Go.Av
