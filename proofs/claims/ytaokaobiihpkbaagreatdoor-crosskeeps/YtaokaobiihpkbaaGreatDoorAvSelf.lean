/- Part of the proof of CrossKeeps: for every input the law returns true; no condition. -/
import Derived.Test.YtaokaobiihpkbaaGreatDoorAvMeth
import Derived.Test.YtaokaobiihpkbaaGreatDoorAvLook
import Derived.Test.YtaokaobiihpkbaaGreatDoorAvDraws
import Derived.Test.YtaokaobiihpkbaaGreatDoorAvClosed4
set_option linter.all false
namespace Go.Av
noncomputable section
section
variable {P:Program} {Gl:Nat→Option (List PV)}
@[reducible] def clo (f a:Nat):AV := .func (.func f) [] [.ptr a 0]
def Zh4 (P:Program) (Gl:Nat→Option (List PV)) (f:Nat) (args:List PV) (r:PV):Prop:=
 ∀ (H:List AObj) (a:Nat),H[a]? = some (.cells [clo f a])→∀ vs,FrzL (fun _=>False) H vs args →
  Qw P Gl f (vs ++ [.ptr a 0]) H (fun v H'=>v = .p r∧H'=H)
end
end
end Go.Av
namespace Go.Av
noncomputable section
section
variable {P:Program} {Gl:Nat→Option (List PV)}
theorem Q98 {f:Nat} {args:List AV} {H:List AObj} {r:AV} {k:AV→List AObj→List Nat→List Nat→Prop} (hargs:refsLt.refsLts H.length args=true) (hr:refsLt H.length r=true)
  (hc:Qw P Gl f args (List.replicate H.length .dead) (fun v _=>v=r)) (hk:k r H [] []):Xu P Gl f args H k:=
 .inl ⟨[],[],r,fun s h=>(by cases h),fun H2 _=>G7 (Qfe hargs hr hc H2) (fun _ _ ⟨e1,e2⟩=>⟨e1,e2⟩),hk⟩
theorem Qpd {f:Nat} {args:List AV} {pargs:List PV} {r:PV} {H:List AObj} {k:AV→List AObj→List Nat→List Nat→Prop} (hp:Q8t P Gl f pargs r) (R:List Nat) (hf:FrzL (fun a=>a∈R) H args pargs)
  (hr:G0 r=true) (hk:k (.p r) H R []):Xu P Gl f args H k:=
 .inl ⟨R,[],.p r,fun s h=>(by cases h),fun H2 hH2=>Q9u hp ⟨hf.1,fun i v x hv hx=>Qb4 (fun a o ha ho=>⟨trivial,hH2 a ha o ho⟩) (hf.2 i v x hv hx)⟩ hr ⟨rfl,rfl⟩,hk⟩
end
end
end Go.Av
