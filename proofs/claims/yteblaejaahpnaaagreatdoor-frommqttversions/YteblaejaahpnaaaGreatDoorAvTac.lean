/- Part of the proof of FrommqttVersions: for every input the law returns true; no condition. -/
import Derived.Test.YteblaejaahpnaaaGreatDoorAvCtr
import Derived.Test.YteblaejaahpnaaaGreatDoorAvClosed4
set_option linter.all false
namespace Go.Av
noncomputable section
universe u
theorem cF {o:Cmp} {x y:Int} {b:Bool} (h:Q4 o x y=b):Qoc o x y=b:=by rw [cmpX_eq];exact h
theorem Env.c1 {α:Type u} (E:Env α):E.cmp.1=Q4:=E.cmp.2
section
variable {P:Program} {Gl:Nat→Option (List PV)}
theorem ifT {b:Bool} {X Y:Prop} (h:b=true) (hx:X) : @Bool.rec (fun _=>Prop) Y X b:=by subst h;exact hx
theorem ifF {b:Bool} {X Y:Prop} (h:b=false) (hy:Y) : @Bool.rec (fun _=>Prop) Y X b:=by subst h;exact hy
theorem Qcv {b:Bool} {X:Prop} (h:b=true) (h1:X) : @Bool.rec (fun _=>Prop) (EP P Gl).fail X b:=by subst h;exact h1
theorem Qw2 {β:Type} {l:List β} {i:Int} {k : β→Prop} {x : β} (h:idx l i=some x) (hk:k x):Qle (EP P Gl) l i k:=by unfold Qle;rw [h];exact hk
theorem Ui {f:Nat} {args:List AV} {pargs:List PV} {r:PV} {H:List AObj} {k:AV→List AObj→List Nat→List Nat→Prop} (hp:Qg6 P Gl f pargs r) (hf:FrzL (fun _=>False) H args pargs) (hk:k (.p r) H [] []):Vh P Gl f args H k:=
 .inl ⟨[],[],.p r,fun s h=>(by cases h),fun _ _=>Q21 hp (hf.K (fun _ _ h _=>h.elim)) ⟨rfl,rfl⟩,hk⟩
end
end
end Go.Av
