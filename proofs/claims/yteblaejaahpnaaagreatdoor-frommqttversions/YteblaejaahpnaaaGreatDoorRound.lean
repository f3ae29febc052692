/- Part of the proof of FrommqttVersions: for every input the law returns true; no condition. -/
import Derived.Test.YteblaejaahpnaaaGreatDoorAvJoin
import Derived.Test.YteblaejaahpnaaaGreatDoorAvClosed
set_option linter.all false
namespace Go.Av
noncomputable section
section
variable {P:Program} {Gl:Nat→Option (List PV)}
def Q8z (P:Program) (Gl:Nat→Option (List PV)) (b:CC) (n:Nat) (tm:List AV) (H:List AObj) (Q:CExit→List AV→List AObj→Prop):Prop:=
 ∀ code,X5 P code b=true→∀ θ0 H0 w0,GlobOK Gl θ0 H0 w0→∀ θ a w,EvoS θ0 H0 w0 θ H w→TmOk θ (Qq θ H) w tm a→Hp θ H w→Code.rounds P code (Qph θ0 H0 w0 Q) n a w
theorem rdI {b:CC} (n:Nat) {tm:List AV} {H:List AObj} {Q:CExit→List AV→List AObj→Prop} (h:Q8z P Gl b n tm H Q):Qac P Gl b tm H Q:=
 fun code hk θ a w hT hH hG=>wp_loop_rounds n (h code hk θ H w hG θ a w (.refl _ _ _) hT hH)
def Zdn (K:List AV→List AObj→Prop) (Q:CExit→List AV→List AObj→Prop):CExit→List AV→List AObj→Prop
 | .normal,tm,H=>K tm H
 | .exit i,tm,H=>Q (.exit i) tm H
 | .ret,tm,H=>Q .ret tm H
theorem rdP {b:CC} {n:Nat} {tm:List AV} {H:List AObj} {Q:CExit→List AV→List AObj→Prop} (h:ev (EP P Gl) b tm H (Zdn (fun tm H=>Q8z P Gl b n tm H Q) Q)):Q8z P Gl b (n+1) tm H Q:=by
 intro code hk θ0 H0 w0 hG0 θ a w hE hT hH;rw [rounds_succ];refine wp_mono (Q60 code b hk tm H _ h θ a w hT hH (hG0.evo hE.toEvo)) ?_
 rintro e a' w' ⟨ce,tm',H',θ',h1,h2,h3,h4,h5⟩
 cases ce<;>cases e<;>simp only [Qar] at h1
 ·exact h2 code hk θ0 H0 w0 hG0 θ' a' w' (hE.trans h5) h3 h4
 ·subst h1;exact ⟨.exit _,tm',H',θ',rfl,h2,h3,h4,hE.trans h5⟩
 exact ⟨.ret,tm',H',θ',trivial,h2,h3,h4,hE.trans h5⟩
theorem rdJ {R:Type} {x:Option R} {r:R} {b:CC} {n:Nat} {tm:List AV} {H:List AObj} {Q:CExit→List AV→List AObj→Prop} (T:List AV)
  (h1:ev (EP P Gl) b tm H (Qm6 H.length (fun _:Unit=>T) (fun _=>H) (fun _=>x=some r) Q)) (h2:x=some r→Q8z P Gl b n T H Q):Q8z P Gl b (n+1) tm H Q:=by
 intro code hk θ0 H0 w0 hG0 θ a w hE hT hH;rw [rounds_succ];refine wp_mono (Q60 code b hk tm H _ h1 θ a w hT hH (hG0.evo hE.toEvo)) ?_
 rintro e a' w' ⟨ce,tm',H',θ',q1,q2,q3,q4,q5⟩
 cases ce<;>cases e<;>simp only [Qar] at q1
 ·obtain ⟨s',j1,ρ,j3⟩:=q2;obtain ⟨p1,p2,p3⟩:=Qgf j3 q3 q4;exact h2 j1 code hk θ0 H0 w0 hG0 _ a' w' (hE.trans (Q9o j3 q4 q5 hH (Lm _))) p1 p2
 ·subst q1;exact ⟨.exit _,tm',H',θ',rfl,q2,q3,q4,hE.trans q5⟩
 exact ⟨.ret,tm',H',θ',trivial,q2,q3,q4,hE.trans q5⟩
end
end
end Go.Av
