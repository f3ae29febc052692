/- Part of the proof of CrossRound: for every input the law returns true; no condition. -/
import Derived.Test.YtaokaobiihpkbaaGreatDoorAvJoin
import Derived.Test.YtaokaobiihpkbaaGreatDoorAvClosed
import Derived.Test.YtaokaobiihpkbaaGreatDoorAvAbb
set_option linter.all false
namespace Go.Av
noncomputable section
section
variable {P:Program} {Gl:Nat→Option (List PV)}
def Qc9 (P:Program) (Gl:Nat→Option (List PV)) (b:CC) (n:Nat) (tm:List AV) (H:List AObj) (Q:CExit→List AV→List AObj→Prop):Prop:=
 ∀ code,Wk P code b=true→∀ θ0 H0 w0,GlobOK Gl θ0 H0 w0→∀ θ a w,EvoS θ0 H0 w0 θ H w→TmOk θ (Qr θ H) w tm a→Hp θ H w→Code.rounds P code (Qtp θ0 H0 w0 Q) n a w
theorem rdI {b:CC} (n:Nat) {tm:List AV} {H:List AObj} {Q:CExit→List AV→List AObj→Prop} (h:Qc9 P Gl b n tm H Q):Q6p P Gl b tm H Q:=
 fun code hk θ a w hT hH hG=>wp_loop_rounds n (h code hk θ H w hG θ a w (.refl _ _ _) hT hH)
def Zi7 (K:List AV→List AObj→Prop) (Q:CExit→List AV→List AObj→Prop):CExit→List AV→List AObj→Prop
 | .normal,tm,H=>K tm H
 | .exit i,tm,H=>Q (.exit i) tm H
 | .ret,tm,H=>Q .ret tm H
theorem rdP {b:CC} {n:Nat} {tm:List AV} {H:List AObj} {Q:CExit→List AV→List AObj→Prop} (h:ev (EP P Gl) b tm H (Zi7 (fun tm H=>Qc9 P Gl b n tm H Q) Q)):Qc9 P Gl b (n+1) tm H Q:=by
 intro code hk θ0 H0 w0 hG0 θ a w hE hT hH;rw [rounds_succ];refine wp_mono (Q8w code b hk tm H _ h θ a w hT hH (hG0.evo hE.toEvo)) ?_
 rintro e a' w' ⟨ce,tm',H',θ',h1,h2,h3,h4,h5⟩
 cases ce<;>cases e<;>simp only [Qdn] at h1
 ·exact h2 code hk θ0 H0 w0 hG0 θ' a' w' (hE.trans h5) h3 h4
 ·subst h1;exact ⟨.exit _,tm',H',θ',rfl,h2,h3,h4,hE.trans h5⟩
 exact ⟨.ret,tm',H',θ',trivial,h2,h3,h4,hE.trans h5⟩
theorem rdJ {R:Type} {x:Option R} {r:R} {b:CC} {n:Nat} {tm:List AV} {H:List AObj} {Q:CExit→List AV→List AObj→Prop} (T:List AV)
  (h1:ev (EP P Gl) b tm H (Qr8 H.length (fun _:Unit=>T) (fun _=>H) (fun _=>x=some r) Q)) (h2:x=some r→Qc9 P Gl b n T H Q):Qc9 P Gl b (n+1) tm H Q:=by
 intro code hk θ0 H0 w0 hG0 θ a w hE hT hH;rw [rounds_succ];refine wp_mono (Q8w code b hk tm H _ h1 θ a w hT hH (hG0.evo hE.toEvo)) ?_
 rintro e a' w' ⟨ce,tm',H',θ',q1,q2,q3,q4,q5⟩
 cases ce<;>cases e<;>simp only [Qdn] at q1
 ·obtain ⟨s',j1,ρ,j3⟩:=q2;obtain ⟨p1,p2,p3⟩:=Qk9 j3 q3 q4;exact h2 j1 code hk θ0 H0 w0 hG0 _ a' w' (hE.trans (Qcs j3 q4 q5 hH (Ll _))) p1 p2
 ·subst q1;exact ⟨.exit _,tm',H',θ',rfl,q2,q3,q4,hE.trans q5⟩
 exact ⟨.ret,tm',H',θ',trivial,q2,q3,q4,hE.trans q5⟩
end
end
end Go.Av
namespace Go.Av
noncomputable section
section
variable {P:Program} {Gl:Nat→Option (List PV)} {R T:Type}
def Qyi (c:T→PV) (tab:List (Int×T)):List (PV×PV):=tab.map fun q=>(.int .i64 q.1,c q.2)
def Qam:List (Int×T)→Int→Option T
 | [],_=>none
 | (k,v)::r,x=>bif x == k then some v else Qam r x
def optC (o:Option T) (f:T→Option R) (z:Option R):Option R:=match o with
 | some v=>f v
 | none=>z
theorem Qlh {ks:List Nat} {xs ys:List AV} {b:Bool} {K:Bool→Prop} (h:Yt ks xs ys=some b) (hk:K b):Q7g (EP P Gl) K ks xs ys:=by
 rw [Qed,h];exact hk
theorem Qz5 {x:PV} {K:Option PV→Prop} (h:K none):Qfm (EP P Gl) x [] K:=by
 unfold Qfm;rw [Qgr];exact h
theorem Qp4 {x c:Int} {v:PV} {r:List (PV×PV)} {K:Option PV→Prop} (h1:(x == c)=true→K (some v)) (h2:(x == c)=false→Qfm (EP P Gl) (.int .i64 x) r K) :
  Qfm (EP P Gl) (.int .i64 x) ((.int .i64 c,v)::r) K:=by
 unfold Qfm at h2 ⊢;rw [Qeq];have e:Wa (.int .i64 x) (.int .i64 c)=some (x == c):=rfl;rw [e]
 cases hb:x == c with
 | true=>exact h1 hb
 | false=>exact h2 hb
theorem Qkn {c:T→PV} {x:Int}:∀ (tab:List (Int×T)) {K:Option PV→Prop},K ((Qam tab x).map c)→Qfm (EP P Gl) (.int .i64 x) (Qyi c tab) K
 | [],K,h=>Qz5 h
 | (k,v)::r,K,h=>Qp4 (fun e=>by simpa [Qam,e] using h) (fun e=>Qkn r (by simpa [Qam,e] using h))
theorem Qt3 {tab:List (Int×T)} {x:Int} {c:T→PV} {f:T→Option R} {z:Option R} {r:R} {K:Option PV→Prop} (h:optC (Qam tab x) f z=some r) (h1:∀ v,Qam tab x=some v→f v=some r→K (some (c v)))
  (h2:Qam tab x=none→z=some r→K none):Qfm (EP P Gl) (.int .i64 x) (Qyi c tab) K:=by
 refine Qkn tab ?_
 cases hl:Qam tab x with
 | none=>rw [hl] at h;exact h2 hl h
 | some v=>rw [hl] at h;exact h1 v hl h
end
end
end Go.Av
