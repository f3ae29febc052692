/- Part of the proof of FrommqttBack: for every input the law returns true; no condition. -/
import Derived.Test.YteblaejaahpnaaaGreatDoorAvJoin
import Derived.Test.YteblaejaahpnaaaGreatDoorAvClosed
import Derived.Test.YteblaejaahpnaaaGreatDoorAvAbb
set_option linter.all false
namespace Go.Av
noncomputable section
section
variable {P:Program} {Gl:Nat→Option (List PV)}
def Qjd (P:Program) (Gl:Nat→Option (List PV)) (b:CC) (n:Nat) (tm:List AV) (H:List AObj) (Q:CExit→List AV→List AObj→Prop):Prop:=
 ∀ code,J8 P code b=true→∀ θ0 H0 w0,GlobOK Gl θ0 H0 w0→∀ θ a w,EvoS θ0 H0 w0 θ H w→TmOk θ (Z9 θ H) w tm a→Hp θ H w→Code.rounds P code (Z3v θ0 H0 w0 Q) n a w
theorem rdI {b:CC} (n:Nat) {tm:List AV} {H:List AObj} {Q:CExit→List AV→List AObj→Prop} (h:Qjd P Gl b n tm H Q):Qdf P Gl b tm H Q:=
 fun code hk θ a w hT hH hG=>wp_loop_rounds n (h code hk θ H w hG θ a w (.refl _ _ _) hT hH)
def Zuq (K:List AV→List AObj→Prop) (Q:CExit→List AV→List AObj→Prop):CExit→List AV→List AObj→Prop
 | .normal,tm,H=>K tm H
 | .exit i,tm,H=>Q (.exit i) tm H
 | .ret,tm,H=>Q .ret tm H
theorem rdP {b:CC} {n:Nat} {tm:List AV} {H:List AObj} {Q:CExit→List AV→List AObj→Prop} (h:ev (EP P Gl) b tm H (Zuq (fun tm H=>Qjd P Gl b n tm H Q) Q)):Qjd P Gl b (n+1) tm H Q:=by
 intro code hk θ0 H0 w0 hG0 θ a w hE hT hH;rw [rounds_succ];refine wp_mono (Qdr code b hk tm H _ h θ a w hT hH (hG0.evo hE.toEvo)) ?_
 rintro e a' w' ⟨ce,tm',H',θ',h1,h2,h3,h4,h5⟩
 cases ce<;>cases e<;>simp only [Qju] at h1
 ·exact h2 code hk θ0 H0 w0 hG0 θ' a' w' (hE.trans h5) h3 h4
 ·subst h1;exact ⟨.exit _,tm',H',θ',rfl,h2,h3,h4,hE.trans h5⟩
 exact ⟨.ret,tm',H',θ',trivial,h2,h3,h4,hE.trans h5⟩
theorem rdJ {R:Type} {x:Option R} {r:R} {b:CC} {n:Nat} {tm:List AV} {H:List AObj} {Q:CExit→List AV→List AObj→Prop} (T:List AV)
  (h1:ev (EP P Gl) b tm H (Qzo H.length (fun _:Unit=>T) (fun _=>H) (fun _=>x=some r) Q)) (h2:x=some r→Qjd P Gl b n T H Q):Qjd P Gl b (n+1) tm H Q:=by
 intro code hk θ0 H0 w0 hG0 θ a w hE hT hH;rw [rounds_succ];refine wp_mono (Qdr code b hk tm H _ h1 θ a w hT hH (hG0.evo hE.toEvo)) ?_
 rintro e a' w' ⟨ce,tm',H',θ',q1,q2,q3,q4,q5⟩
 cases ce<;>cases e<;>simp only [Qju] at q1
 ·obtain ⟨s',j1,ρ,j3⟩:=q2;obtain ⟨p1,p2,p3⟩:=Qrf j3 q3 q4;exact h2 j1 code hk θ0 H0 w0 hG0 _ a' w' (hE.trans (Qjc j3 q4 q5 hH (Lj _))) p1 p2
 ·subst q1;exact ⟨.exit _,tm',H',θ',rfl,q2,q3,q4,hE.trans q5⟩
 exact ⟨.ret,tm',H',θ',trivial,q2,q3,q4,hE.trans q5⟩
end
end
end Go.Av
namespace Go.Av
noncomputable section
section
variable {P:Program} {Gl:Nat→Option (List PV)} {R T:Type}
def Z5c (c:T→PV) (tab:List (Int×T)):List (PV×PV):=tab.map fun q=>(.int .i64 q.1,c q.2)
def Q55:List (Int×T)→Int→Option T
 | [],_=>none
 | (k,v)::r,x=>bif x == k then some v else Q55 r x
def optC (o:Option T) (f:T→Option R) (z:Option R):Option R:=match o with
 | some v=>f v
 | none=>z
theorem Qn9 {ks:List Nat} {xs ys:List AV} {b:Bool} {K:Bool→Prop} (h:Wa ks xs ys=some b) (hk:K b):Qd3 (EP P Gl) K ks xs ys:=by
 rw [Qkq,h];exact hk
theorem Z4z {x:PV} {K:Option PV→Prop} (h:K none):Qir (EP P Gl) x [] K:=by
 unfold Qir;rw [Qo0];exact h
theorem Qok {x c:Int} {v:PV} {r:List (PV×PV)} {K:Option PV→Prop} (h1:(x == c)=true→K (some v)) (h2:(x == c)=false→Qir (EP P Gl) (.int .i64 x) r K) :
  Qir (EP P Gl) (.int .i64 x) ((.int .i64 c,v)::r) K:=by
 unfold Qir at h2 ⊢;rw [Ql0];have e:Q1r (.int .i64 x) (.int .i64 c)=some (x == c):=rfl;rw [e]
 cases hb:x == c with
 | true=>exact h1 hb
 | false=>exact h2 hb
theorem Q77 {x c:Int} {v:PV} {r:List (PV×PV)} {a b:Option R} {s:R} {K:Option PV→Prop} (h:cond (x == c) a b=some s) (h1:(x == c)=true→a=some s→K (some v)) (h2:(x == c)=false→b=some s→Qir (EP P Gl) (.int .i64 x) r K) :
  Qir (EP P Gl) (.int .i64 x) ((.int .i64 c,v)::r) K:=
 Qok (fun e=>h1 e (by rw [e] at h;exact h)) (fun e=>h2 e (by rw [e] at h;exact h))
theorem Qsh {c:T→PV} {x:Int}:∀ (tab:List (Int×T)) {K:Option PV→Prop},K ((Q55 tab x).map c)→Qir (EP P Gl) (.int .i64 x) (Z5c c tab) K
 | [],K,h=>Z4z h
 | (k,v)::r,K,h=>Qok (fun e=>by simpa [Q55,e] using h) (fun e=>Qsh r (by simpa [Q55,e] using h))
theorem Z0q {tab:List (Int×T)} {x:Int} {c:T→PV} {f:T→Option R} {z:Option R} {r:R} {K:Option PV→Prop} (h:optC (Q55 tab x) f z=some r) (h1:∀ v,Q55 tab x=some v→f v=some r→K (some (c v)))
  (h2:Q55 tab x=none→z=some r→K none):Qir (EP P Gl) (.int .i64 x) (Z5c c tab) K:=by
 refine Qsh tab ?_
 cases hl:Q55 tab x with
 | none=>rw [hl] at h;exact h2 hl h
 | some v=>rw [hl] at h;exact h1 v hl h
end
theorem Qs4 {T:Type} {c:T→List PV} {e:Nat} (hc:∀ v,(c v).length=e) {K:Nat→Prop} {H:List AObj} {a n:Nat} {l:List T} (ho:H[a]? = some (.cells (Q18 c l))) (hk:K a) (hn:n≤l.length) :
  Frz K H (.slice e a 0 n) (.slice e (Q6 c (l.take n))):=by
 have hlt:(l.take n).length=n:=by rw [Mk];omega
 have hl:(Q6 c (l.take n)).flatten.length=n * e:=by
  have:=Q6p hc (l.take n);rw [Qbk,Mm,hlt] at this;exact this
 have hcs:((Q18 c l).drop 0).take (n * e)=Q18 c (l.take n):=by
  have h1:(Q18 c (l.take n)).length=n * e:=by rw [Q6p hc,hlt]
  rw [Mz,Qv4 l n,Np (by omega),Ms (by omega)]
 refine .slice e a 0 n (Q18 c l) (Q6 c (l.take n)) hk ho (by rw [Q4,hlt]) (fun r hr=>?_) ?_ (fun i v x hv hx=>?_)
 ·simp only [Q6,Nq] at hr;obtain ⟨y,_,rfl⟩:=hr;exact hc y
 ·rw [hcs,Q6p hc,hlt,hl]
 rw [hcs,Qbk,Lo,hx] at hv;cases hv;exact .p _
theorem Qy5 {K:Nat→Prop} {H:List AObj} {T:Type} {c:T→List PV} {l:List T} {e h:Nat}:Frz K H (.p (.slice e (((Q6 c l).take h).drop 0))) (.slice e (Q6 c (l.take h))):=by
 have:((Q6 c l).take h).drop 0=Q6 c (l.take h):=by simp [Q6]
 rw [this];exact .p _
theorem Qzr {K:Nat→Prop} {H:List AObj} {T:Type} {c:T→List PV} {l:List T} {e h:Nat}:Frz K H (.p (.slice e (((Q6 c l).take (Q6 c l).length).drop h))) (.slice e (Q6 c (l.drop h))):=by
 have:((Q6 c l).take (Q6 c l).length).drop h=Q6 c (l.drop h):=by rw [Ms (Lj _)];simp [Q6]
 rw [this];exact .p _
end
end Go.Av
