/- Part of the proof of CrossKeeps: for every input the law returns true; no condition. -/
import Derived.Test.YtaokaobiihpkbaaGreatDoorAvJoin
import Derived.Test.YtaokaobiihpkbaaGreatDoorAvClosed
import Derived.Test.YtaokaobiihpkbaaGreatDoorAvAbb
set_option linter.all false
namespace Go.Av
noncomputable section
section
variable {P:Program} {Gl:Nat→Option (List PV)}
def Qdl (P:Program) (Gl:Nat→Option (List PV)) (b:CC) (n:Nat) (tm:List AV) (H:List AObj) (Q:CExit→List AV→List AObj→Prop):Prop:=
 ∀ code,V3 P code b=true→∀ θ0 H0 w0,GlobOK Gl θ0 H0 w0→∀ θ a w,EvoS θ0 H0 w0 θ H w→TmOk θ (Qv θ H) w tm a→Hp θ H w→Code.rounds P code (Qxu θ0 H0 w0 Q) n a w
theorem rdI {b:CC} (n:Nat) {tm:List AV} {H:List AObj} {Q:CExit→List AV→List AObj→Prop} (h:Qdl P Gl b n tm H Q):Q8g P Gl b tm H Q:=
 fun code hk θ a w hT hH hG=>wp_loop_rounds n (h code hk θ H w hG θ a w (.refl _ _ _) hT hH)
def Zhg (K:List AV→List AObj→Prop) (Q:CExit→List AV→List AObj→Prop):CExit→List AV→List AObj→Prop
 | .normal,tm,H=>K tm H
 | .exit i,tm,H=>Q (.exit i) tm H
 | .ret,tm,H=>Q .ret tm H
theorem rdP {b:CC} {n:Nat} {tm:List AV} {H:List AObj} {Q:CExit→List AV→List AObj→Prop} (h:ev (EP P Gl) b tm H (Zhg (fun tm H=>Qdl P Gl b n tm H Q) Q)):Qdl P Gl b (n+1) tm H Q:=by
 intro code hk θ0 H0 w0 hG0 θ a w hE hT hH;rw [rounds_succ];refine wp_mono (Qa1 code b hk tm H _ h θ a w hT hH (hG0.evo hE.toEvo)) ?_
 rintro e a' w' ⟨ce,tm',H',θ',h1,h2,h3,h4,h5⟩
 cases ce<;>cases e<;>simp only [Qf5] at h1
 ·exact h2 code hk θ0 H0 w0 hG0 θ' a' w' (hE.trans h5) h3 h4
 ·subst h1;exact ⟨.exit _,tm',H',θ',rfl,h2,h3,h4,hE.trans h5⟩
 exact ⟨.ret,tm',H',θ',trivial,h2,h3,h4,hE.trans h5⟩
theorem rdJ {R:Type} {x:Option R} {r:R} {b:CC} {n:Nat} {tm:List AV} {H:List AObj} {Q:CExit→List AV→List AObj→Prop} (T:List AV)
  (h1:ev (EP P Gl) b tm H (Qsz H.length (fun _:Unit=>T) (fun _=>H) (fun _=>x=some r) Q)) (h2:x=some r→Qdl P Gl b n T H Q):Qdl P Gl b (n+1) tm H Q:=by
 intro code hk θ0 H0 w0 hG0 θ a w hE hT hH;rw [rounds_succ];refine wp_mono (Qa1 code b hk tm H _ h1 θ a w hT hH (hG0.evo hE.toEvo)) ?_
 rintro e a' w' ⟨ce,tm',H',θ',q1,q2,q3,q4,q5⟩
 cases ce<;>cases e<;>simp only [Qf5] at q1
 ·obtain ⟨s',j1,ρ,j3⟩:=q2;obtain ⟨p1,p2,p3⟩:=Qmi j3 q3 q4;exact h2 j1 code hk θ0 H0 w0 hG0 _ a' w' (hE.trans (Qd3 j3 q4 q5 hH (Li _))) p1 p2
 ·subst q1;exact ⟨.exit _,tm',H',θ',rfl,q2,q3,q4,hE.trans q5⟩
 exact ⟨.ret,tm',H',θ',trivial,q2,q3,q4,hE.trans q5⟩
end
end
end Go.Av
namespace Go.Av
noncomputable section
section
variable {P:Program} {Gl:Nat→Option (List PV)} {R T:Type}
def Z0y (c:T→PV) (tab:List (Int×T)):List (PV×PV):=tab.map fun q=>(.int .i64 q.1,c q.2)
def Q3o:List (Int×T)→Int→Option T
 | [],_=>none
 | (k,v)::r,x=>bif x == k then some v else Q3o r x
def optC (o:Option T) (f:T→Option R) (z:Option R):Option R:=match o with
 | some v=>f v
 | none=>z
theorem Qnh {ks:List Nat} {xs ys:List AV} {b:Bool} {K:Bool→Prop} (h:X9 ks xs ys=some b) (hk:K b):Q9d (EP P Gl) K ks xs ys:=by
 rw [Qg4,h];exact hk
theorem Z2w {x:PV} {K:Option PV→Prop} (h:K none):Qhg (EP P Gl) x [] K:=by
 unfold Qhg;rw [Qif];exact h
theorem Qri {x c:Int} {v:PV} {r:List (PV×PV)} {K:Option PV→Prop} (h1:(x == c)=true→K (some v)) (h2:(x == c)=false→Qhg (EP P Gl) (.int .i64 x) r K) :
  Qhg (EP P Gl) (.int .i64 x) ((.int .i64 c,v)::r) K:=by
 unfold Qhg at h2 ⊢;rw [Qfg];have e:Wu (.int .i64 x) (.int .i64 c)=some (x == c):=rfl;rw [e]
 cases hb:x == c with
 | true=>exact h1 hb
 | false=>exact h2 hb
theorem Qni {c:T→PV} {x:Int}:∀ (tab:List (Int×T)) {K:Option PV→Prop},K ((Q3o tab x).map c)→Qhg (EP P Gl) (.int .i64 x) (Z0y c tab) K
 | [],K,h=>Z2w h
 | (k,v)::r,K,h=>Qri (fun e=>by simpa [Q3o,e] using h) (fun e=>Qni r (by simpa [Q3o,e] using h))
theorem Qv5 {tab:List (Int×T)} {x:Int} {c:T→PV} {f:T→Option R} {z:Option R} {r:R} {K:Option PV→Prop} (h:optC (Q3o tab x) f z=some r) (h1:∀ v,Q3o tab x=some v→f v=some r→K (some (c v)))
  (h2:Q3o tab x=none→z=some r→K none):Qhg (EP P Gl) (.int .i64 x) (Z0y c tab) K:=by
 refine Qni tab ?_
 cases hl:Q3o tab x with
 | none=>rw [hl] at h;exact h2 hl h
 | some v=>rw [hl] at h;exact h1 v hl h
end
theorem Qu9 {K:Nat→Prop} {H:List AObj} {T:Type} {c:T→List PV} {l:List T} {e h:Nat}:Frz K H (.p (.slice e (((Q8 c l).take h).drop 0))) (.slice e (Q8 c (l.take h))):=by
 have:((Q8 c l).take h).drop 0=Q8 c (l.take h):=by simp [Q8]
 rw [this];exact .p _
end
end Go.Av
