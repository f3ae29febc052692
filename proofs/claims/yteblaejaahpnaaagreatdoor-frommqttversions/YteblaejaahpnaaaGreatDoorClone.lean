/- Part of the proof of FrommqttVersions: for every input the law returns true; no condition. -/
import Derived.Test.YteblaejaahpnaaaGreatDoorAvAbb
set_option linter.all false
namespace Go.Av
noncomputable section
section
variable {P:Program} {Gl:Nat→Option (List PV)}
theorem Q38 {f e:Nat} {H:List AObj} {Q:AV→List AObj→Prop} (h1:Xf P Gl f [.p .nilSlice] H Q) (h2:Xf P Gl f [.p .sliceS] H Q):Xf P Gl f [.p (.slice e [])] H Q:=by
 refine ⟨h1.1,fun θ w cargs ha hH hG=>?_⟩;have hs:cargs.size=1:=ha.1;have hr:=ha.2 0 _ rfl
 have key:cargs.getD 0 Qy = .slice none 0 0∨∃ a c,cargs.getD 0 Qy = .slice (some a) 0 c:=by
  generalize cargs.getD 0 Qy=v at hr
  cases hr with
  | p _ _ hp=>
   cases hp with
   | sliceE _ a c hn=>
    cases a with
    | none=>rw [hn rfl];exact .inl rfl
    | some a=>exact .inr ⟨a,c,rfl⟩
   | slice _ _ blk off cap val he hr hcap hS hc hone hv=>exact .inr ⟨_,cap,rfl⟩
 rcases key with e | ⟨a,c,e⟩
 ·refine h1.2 θ w cargs ⟨hs,fun i u hu=>?_⟩ hH hG
  cases i with
  | zero=>simp at hu;subst hu;rw [e];exact .p _ _ .nilSlice
  | succ i=>simp at hu
 refine h2.2 θ w cargs ⟨hs,fun i u hu=>?_⟩ hH hG
 cases i with
 | zero=>simp at hu;subst hu;rw [e];exact .p _ _ (.sliceS a c)
 | succ i=>simp at hu
end
end
end Go.Av
