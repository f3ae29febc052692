/- Part of FrommqttCalls: the law returns true; no condition. -/
import Derived.Test.YtbcddiagcaddbaaGreatDoorAvJoin
import Derived.Test.YtbcddiagcaddbaaGreatDoorAvClosed
import Derived.Test.YtbcddiagcaddbaaGreatDoorAvAbb
set_option linter.all false
namespace Go.Av
noncomputable section
section
variable {P:Program} {Gl:Nat->Option (List PV)}
def Qiu (P:Program) (Gl:Nat->Option (List PV)) (b:CC) (n:Nat) (tm:List AV) (H:List AObj) (Q:CExit->List AV->List AObj->Prop):Prop:=
 ∀ code,Ja P code b=true->∀ θ0 H0 w0,GlobOK Gl θ0 H0 w0->∀ θ a w,EvoS θ0 H0 w0 θ H w->TmOk θ (Z8 θ H) w tm a->Hp θ H w->Code.rounds P code (Z4c θ0 H0 w0 Q) n a w
theorem rdI {b:CC} (n:Nat) {tm:List AV} {H:List AObj} {Q:CExit->List AV->List AObj->Prop} (h:Qiu P Gl b n tm H Q):Qdu P Gl b tm H Q:=
 fun code hk θ a w hT hH hG=>wp_loop_rounds n (h code hk θ H w hG θ a w (.refl _ _ _) hT hH)
def Zuy (K:List AV->List AObj->Prop) (Q:CExit->List AV->List AObj->Prop):CExit->List AV->List AObj->Prop
 | .normal,tm,H=>K tm H
 | .exit i,tm,H=>Q (.exit i) tm H
 | .ret,tm,H=>Q .ret tm H
theorem rdP {b:CC} {n:Nat} {tm:List AV} {H:List AObj} {Q:CExit->List AV->List AObj->Prop} (h:ev (EP P Gl) b tm H (Zuy (fun tm H=>Qiu P Gl b n tm H Q) Q)):Qiu P Gl b (n+1) tm H Q:=by
 intro code hk θ0 H0 w0 hG0 θ a w hE hT hH;rw [rounds_succ];refine wp_mono (Qf7 code b hk tm H _ h θ a w hT hH (hG0.evo hE.toEvo)) ?_
 rintro e a' w' ⟨ce,tm',H',θ',h1,h2,h3,h4,h5⟩
 cases ce<;>cases e<;>simp only [Qkk] at h1
 ·exact h2 code hk θ0 H0 w0 hG0 θ' a' w' (hE.trans h5) h3 h4
 ·subst h1;exact ⟨.exit _,tm',H',θ',rfl,h2,h3,h4,hE.trans h5⟩
 exact ⟨.ret,tm',H',θ',trivial,h2,h3,h4,hE.trans h5⟩
theorem rdJ {R:Type} {x:Option R} {r:R} {b:CC} {n:Nat} {tm:List AV} {H:List AObj} {Q:CExit->List AV->List AObj->Prop} (T:List AV)
  (h1:ev (EP P Gl) b tm H (Qys H.length (fun _:Unit=>T) (fun _=>H) (fun _=>x=some r) Q)) (h2:x=some r->Qiu P Gl b n T H Q):Qiu P Gl b (n+1) tm H Q:=by
 intro code hk θ0 H0 w0 hG0 θ a w hE hT hH;rw [rounds_succ];refine wp_mono (Qf7 code b hk tm H _ h1 θ a w hT hH (hG0.evo hE.toEvo)) ?_
 rintro e a' w' ⟨ce,tm',H',θ',q1,q2,q3,q4,q5⟩
 cases ce<;>cases e<;>simp only [Qkk] at q1
 ·obtain ⟨s',j1,ρ,j3⟩:=q2;obtain ⟨p1,p2,p3⟩:=Qrt j3 q3 q4;exact h2 j1 code hk θ0 H0 w0 hG0 _ a' w' (hE.trans (Qj8 j3 q4 q5 hH (Lj _))) p1 p2
 ·subst q1;exact ⟨.exit _,tm',H',θ',rfl,q2,q3,q4,hE.trans q5⟩
 exact ⟨.ret,tm',H',θ',trivial,q2,q3,q4,hE.trans q5⟩
end
end
end Go.Av
namespace Go.Av
noncomputable section
section
variable {P:Program} {Gl:Nat->Option (List PV)} {R T:Type}
def Z6l (c:T->PV) (tab:List (Int×T)):List (PV×PV):=tab.map fun q=>(.int .i64 q.1,c q.2)
def Q5h:List (Int×T)->Int->Option T
 | [],_=>none
 | (k,v)::r,x=>bif x == k then some v else Q5h r x
def optC (o:Option T) (f:T->Option R) (z:Option R):Option R:=match o with
 | some v=>f v
 | none=>z
theorem Qo8 {ks:List Nat} {xs ys:List AV} {b:Bool} {K:Bool->Prop} (h:Wc ks xs ys=some b) (hk:K b):Qe3 (EP P Gl) K ks xs ys:=by
 rw [Qlx,h];exact hk
theorem Z6d {x:PV} {K:Option PV->Prop} (h:K none):Qix (EP P Gl) x [] K:=by
 unfold Qix;rw [Qoq];exact h
theorem Qnz {x c:Int} {v:PV} {r:List (PV×PV)} {K:Option PV->Prop} (h1:(x == c)=true->K (some v)) (h2:(x == c)=false->Qix (EP P Gl) (.int .i64 x) r K) :
  Qix (EP P Gl) (.int .i64 x) ((.int .i64 c,v)::r) K:=by
 unfold Qix at h2 ⊢;rw [Qlr];have e:Q2h (.int .i64 x) (.int .i64 c)=some (x == c):=rfl;rw [e]
 cases hb:x == c with
 | true=>exact h1 hb
 | false=>exact h2 hb
theorem Q7p {x c:Int} {v:PV} {r:List (PV×PV)} {a b:Option R} {s:R} {K:Option PV->Prop} (h:cond (x == c) a b=some s) (h1:(x == c)=true->a=some s->K (some v)) (h2:(x == c)=false->b=some s->Qix (EP P Gl) (.int .i64 x) r K) :
  Qix (EP P Gl) (.int .i64 x) ((.int .i64 c,v)::r) K:=
 Qnz (fun e=>h1 e (by rw [e] at h;exact h)) (fun e=>h2 e (by rw [e] at h;exact h))
theorem Qsi {c:T->PV} {x:Int}:∀ (tab:List (Int×T)) {K:Option PV->Prop},K ((Q5h tab x).map c)->Qix (EP P Gl) (.int .i64 x) (Z6l c tab) K
 | [],K,h=>Z6d h
 | (k,v)::r,K,h=>Qnz (fun e=>by simpa [Q5h,e] using h) (fun e=>Qsi r (by simpa [Q5h,e] using h))
theorem Z0x {tab:List (Int×T)} {x:Int} {c:T->PV} {f:T->Option R} {z:Option R} {r:R} {K:Option PV->Prop} (h:optC (Q5h tab x) f z=some r) (h1:∀ v,Q5h tab x=some v->f v=some r->K (some (c v)))
  (h2:Q5h tab x=none->z=some r->K none):Qix (EP P Gl) (.int .i64 x) (Z6l c tab) K:=by
 refine Qsi tab ?_
 cases hl:Q5h tab x with
 | none=>rw [hl] at h;exact h2 hl h
 | some v=>rw [hl] at h;exact h1 v hl h
end
theorem Qsq {T:Type} {c:T->List PV} {e:Nat} (hc:∀ v,(c v).length=e) {K:Nat->Prop} {H:List AObj} {a n:Nat} {l:List T} (ho:H[a]? = some (.cells (Q0g c l))) (hk:K a) (hn:n≤l.length) :
  Frz K H (.slice e a 0 n) (.slice e (Q7 c (l.take n))):=by
 have hlt:(l.take n).length=n:=by rw [Mk];omega
 have hl:(Q7 c (l.take n)).flatten.length=n * e:=by
  have:=Q77 hc (l.take n);rw [Qc4,Mm,hlt] at this;exact this
 have hcs:((Q0g c l).drop 0).take (n * e)=Q0g c (l.take n):=by
  have h1:(Q0g c (l.take n)).length=n * e:=by rw [Q77 hc,hlt]
  rw [Nb,Qx1 l n,Np (by omega),Ms (by omega)]
 refine .slice e a 0 n (Q0g c l) (Q7 c (l.take n)) hk ho (by rw [Q3,hlt]) (fun r hr=>?_) ?_ (fun i v x hv hx=>?_)
 ·simp only [Q7,Nk] at hr;obtain ⟨y,_,rfl⟩:=hr;exact hc y
 ·rw [hcs,Q77 hc,hlt,hl]
 rw [hcs,Qc4,Lo,hx] at hv;cases hv;exact .p _
theorem Qyv {K:Nat->Prop} {H:List AObj} {T:Type} {c:T->List PV} {l:List T} {e h:Nat}:Frz K H (.p (.slice e (((Q7 c l).take h).drop 0))) (.slice e (Q7 c (l.take h))):=by
 have:((Q7 c l).take h).drop 0=Q7 c (l.take h):=by simp [Q7]
 rw [this];exact .p _
theorem Qyg {K:Nat->Prop} {H:List AObj} {T:Type} {c:T->List PV} {l:List T} {e h:Nat}:Frz K H (.p (.slice e (((Q7 c l).take (Q7 c l).length).drop h))) (.slice e (Q7 c (l.drop h))):=by
 have:((Q7 c l).take (Q7 c l).length).drop h=Q7 c (l.drop h):=by rw [Ms (Lj _)];simp [Q7]
 rw [this];exact .p _
end
end Go.Av
