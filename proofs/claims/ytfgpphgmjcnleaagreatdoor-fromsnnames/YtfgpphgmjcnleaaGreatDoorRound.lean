/- Part of FromsnNames: the law returns true; no condition. -/
import Derived.Test.YtfgpphgmjcnleaaGreatDoorAvJoin
import Derived.Test.YtfgpphgmjcnleaaGreatDoorAvClosed
import Derived.Test.YtfgpphgmjcnleaaGreatDoorAvAbb
import Derived.Test.YtfgpphgmjcnleaaGreatDoorLiftTy
import Derived.Test.YtfgpphgmjcnleaaGreatDoorChks
import Derived.Test.YtfgpphgmjcnleaaGreatDoorSeat1
import Derived.KernelRfl
set_option linter.all false
namespace Go.Av
noncomputable section
section
variable {P:Program} {Gl:Nat->Option (List PV)}
def Qa3 (P:Program) (Gl:Nat->Option (List PV)) (b:CC) (n:Nat) (tm:List AV) (H:List AObj) (Q:CExit->List AV->List AObj->Prop):Prop:=
 ∀ code,Ye P code b=true->∀ θ0 H0 w0,GlobOK Gl θ0 H0 w0->∀ θ a w,EvoS θ0 H0 w0 θ H w->TmOk θ (Qe θ H) w tm a->Hp θ H w->Code.rounds P code (Qp0 θ0 H0 w0 Q) n a w
theorem rdI {b:CC} (n:Nat) {tm:List AV} {H:List AObj} {Q:CExit->List AV->List AObj->Prop} (h:Qa3 P Gl b n tm H Q):Q3g P Gl b tm H Q:=
 fun code hk θ a w hT hH hG=>wp_loop_rounds n (h code hk θ H w hG θ a w (.refl _ _ _) hT hH)
def Z5g (K:List AV->List AObj->Prop) (Q:CExit->List AV->List AObj->Prop):CExit->List AV->List AObj->Prop
 | .normal,tm,H=>K tm H
 | .exit i,tm,H=>Q (.exit i) tm H
 | .ret,tm,H=>Q .ret tm H
theorem rdP {b:CC} {n:Nat} {tm:List AV} {H:List AObj} {Q:CExit->List AV->List AObj->Prop} (h:ev (EP P Gl) b tm H (Z5g (fun tm H=>Qa3 P Gl b n tm H Q) Q)):Qa3 P Gl b (n+1) tm H Q:=by
 intro code hk θ0 H0 w0 hG0 θ a w hE hT hH;rw [rounds_succ];refine wp_mono (Q65 code b hk tm H _ h θ a w hT hH (hG0.evo hE.toEvo)) ?_
 rintro e a' w' ⟨ce,tm',H',θ',h1,h2,h3,h4,h5⟩
 cases ce<;>cases e<;>simp only [Qba] at h1
 ·exact h2 code hk θ0 H0 w0 hG0 θ' a' w' (hE.trans h5) h3 h4
 ·subst h1;exact ⟨.exit _,tm',H',θ',rfl,h2,h3,h4,hE.trans h5⟩
 exact ⟨.ret,tm',H',θ',trivial,h2,h3,h4,hE.trans h5⟩
theorem rdJ {R:Type} {x:Option R} {r:R} {b:CC} {n:Nat} {tm:List AV} {H:List AObj} {Q:CExit->List AV->List AObj->Prop} (T:List AV)
  (h1:ev (EP P Gl) b tm H (Qn1 H.length (fun _:Unit=>T) (fun _=>H) (fun _=>x=some r) Q)) (h2:x=some r->Qa3 P Gl b n T H Q):Qa3 P Gl b (n+1) tm H Q:=by
 intro code hk θ0 H0 w0 hG0 θ a w hE hT hH;rw [rounds_succ];refine wp_mono (Q65 code b hk tm H _ h1 θ a w hT hH (hG0.evo hE.toEvo)) ?_
 rintro e a' w' ⟨ce,tm',H',θ',q1,q2,q3,q4,q5⟩
 cases ce<;>cases e<;>simp only [Qba] at q1
 ·obtain ⟨s',j1,ρ,j3⟩:=q2;obtain ⟨p1,p2,p3⟩:=Qil j3 q3 q4;exact h2 j1 code hk θ0 H0 w0 hG0 _ a' w' (hE.trans (Q99 j3 q4 q5 hH (Lj _))) p1 p2
 ·subst q1;exact ⟨.exit _,tm',H',θ',rfl,q2,q3,q4,hE.trans q5⟩
 exact ⟨.ret,tm',H',θ',trivial,q2,q3,q4,hE.trans q5⟩
end
end
end Go.Av
namespace Go.Av
noncomputable section
section
variable {P:Program} {Gl:Nat->Option (List PV)} {R T:Type}
def Qrp (c:T->PV) (tab:List (Int×T)):List (PV×PV):=tab.map fun q=>(.int .i64 q.1,c q.2)
def Qbe:List (Int×T)->Int->Option T
 | [],_=>none
 | (k,v)::r,x=>bif x == k then some v else Qbe r x
def Qtm (o:Option T) (f:T->Option R) (z:Option R):Option R:=match o with
 | some v=>f v
 | none=>z
theorem Qkj {ks:List Nat} {xs ys:List AV} {b:Bool} {K:Bool->Prop} (h:Z8 ks xs ys=some b) (hk:K b):Q57 (EP P Gl) K ks xs ys:=by
 rw [Qcb,h];exact hk
theorem Qt9 {x:PV} {K:Option PV->Prop} (h:K none):Qcx (EP P Gl) x [] K:=by
 unfold Qcx;rw [Qfo];exact h
theorem Ql7 {x c:Int} {v:PV} {r:List (PV×PV)} {K:Option PV->Prop} (h1:(x == c)=true->K (some v)) (h2:(x == c)=false->Qcx (EP P Gl) (.int .i64 x) r K) :
  Qcx (EP P Gl) (.int .i64 x) ((.int .i64 c,v)::r) K:=by
 unfold Qcx at h2 ⊢;rw [Qc5];have e:Y9 (.int .i64 x) (.int .i64 c)=some (x == c):=rfl;rw [e]
 cases hb:x == c with
 | true=>exact h1 hb
 | false=>exact h2 hb
theorem Qhw {c:T->PV} {x:Int}:∀ (tab:List (Int×T)) {K:Option PV->Prop},K ((Qbe tab x).map c)->Qcx (EP P Gl) (.int .i64 x) (Qrp c tab) K
 | [],K,h=>Qt9 h
 | (k,v)::r,K,h=>Ql7 (fun e=>by simpa [Qbe,e] using h) (fun e=>Qhw r (by simpa [Qbe,e] using h))
theorem Qom {tab:List (Int×T)} {x:Int} {c:T->PV} {f:T->Option R} {z:Option R} {r:R} {K:Option PV->Prop} (h:Qtm (Qbe tab x) f z=some r) (h1:∀ v,Qbe tab x=some v->f v=some r->K (some (c v)))
  (h2:Qbe tab x=none->z=some r->K none):Qcx (EP P Gl) (.int .i64 x) (Qrp c tab) K:=by
 refine Qhw tab ?_
 cases hl:Qbe tab x with
 | none=>rw [hl] at h;exact h2 hl h
 | some v=>rw [hl] at h;exact h1 v hl h
end
theorem Qhk {T:Type} {c:T->List PV} {e:Nat} (hc:∀ v,(c v).length=e) {K:Nat->Prop} {H:List AObj} {a n:Nat} {l:List T} (ho:H[a]? = some (.cells (Z0 c l))) (hk:K a) (hn:n≤l.length) :
  Frz K H (.slice e a 0 n) (.slice e (Qg c (l.take n))):=by
 have hlt:(l.take n).length=n:=by rw [Mq];omega
 have hl:(Qg c (l.take n)).flatten.length=n * e:=by
  have:=Q07 hc (l.take n);rw [Q45,Mg,hlt] at this;exact this
 have hcs:((Z0 c l).drop 0).take (n * e)=Z0 c (l.take n):=by
  have h1:(Z0 c (l.take n)).length=n * e:=by rw [Q07 hc,hlt]
  rw [Bh,Qko l n,Nb (by omega),Mt (by omega)]
 refine .slice e a 0 n (Z0 c l) (Qg c (l.take n)) hk ho (by rw [Q3b,hlt]) (fun r hr=>?_) ?_ (fun i v x hv hx=>?_)
 ·simp only [Qg,Mm] at hr;obtain ⟨y,_,rfl⟩:=hr;exact hc y
 ·rw [hcs,Q07 hc,hlt,hl]
 rw [hcs,Q45,Lk,hx] at hv;cases hv;exact .p _
end
end Go.Av
namespace Go.Av
noncomputable section
section
variable {P:Program} {Gl:Nat->Option (List PV)}
theorem Qgo {f e:Nat} {H:List AObj} {Q:AV->List AObj->Prop} (h1:Q8 P Gl f [.p .nilSlice] H Q) (h2:Q8 P Gl f [.p .sliceS] H Q):Q8 P Gl f [.p (.slice e [])] H Q:=by
 refine ⟨h1.1,fun θ w cargs ha hH hG=>?_⟩;have hs:cargs.size=1:=ha.1;have hr:=ha.2 0 _ rfl
 have key:cargs.getD 0 Qc = .slice none 0 0∨∃ a c,cargs.getD 0 Qc = .slice (some a) 0 c:=by
  generalize cargs.getD 0 Qc=v at hr
  cases hr with
  | p _ _ hp=>
   cases hp with
   | sliceE _ a c hn=>
    cases a with
    | none=>rw [hn rfl];exact .inl rfl
    | some a=>exact .inr ⟨a,c,rfl⟩
   | slice _ _ blk off cap val he hr hcap hS hc hone hv=>exact .inr ⟨_,cap,rfl⟩
 rcases key with e | ⟨a,c,e⟩
 ·refine h1.2 θ w cargs ⟨hs,fun i u hu=>?_⟩ hH hG
  cases i with
  | zero=>simp at hu;subst hu;rw [e];exact .p _ _ .nilSlice
  | succ i=>simp at hu
 refine h2.2 θ w cargs ⟨hs,fun i u hu=>?_⟩ hH hG
 cases i with
 | zero=>simp at hu;subst hu;rw [e];exact .p _ _ (.sliceS a c)
 | succ i=>simp at hu
end
end
end Go.Av
namespace Go.Av
noncomputable section
open Go.Proofs
set_option maxRecDepth 100000
set_option maxHeartbeats 4000000
attribute [local irreducible] Qv Q8 Q3g Q27 Qpn Qj3 Qgp
def Q5o (_N:Nat) (s:List V5):Option (List V5):=cond (Nat.beq s.length 0) (some []) (cond (Nat.ble ((0+s.length+4096) * 24) 17592186044416) (some s) none)
theorem Q3c {N} {s:List V5} {r} (h:Q5o N s=some r):GC Tryz.prog G1 19 (.p (.slice 2 (Qg V5.cells s)) :: []) [] (.slice 2 0 0 r.length) (.cells (Z0 V5.cells r) :: []):=by
 cases s with
 | nil=>
  obtain rfl:=Qb h;refine Qgo (e:=2) ?_ ?_
  ·refine Yv k19 (Lt rfl) ?_;show Exists _;exact ⟨rho [0],(rS <| rN),(hV (Lt rfl) <| hN),rfl,rfl,(roE rfl <| roN)⟩
  refine Yv k19 (Lt rfl) ?_;show Exists _;exact ⟨(fun i=>i),(rE rfl <| rN),(hE rfl <| hN),rfl,rfl,(roE rfl <| roN)⟩
 | cons x l=>
  obtain ⟨h1,h⟩:=Q3x h;obtain rfl:=Qb h;generalize hs:x::l=s at h1
  have hne:(!(Qg V5.cells s).isEmpty)=true:=by subst hs;rfl
  have hb:Nat.beq (Qg V5.cells s).length 0=false:=by subst hs;rfl
  clear hs;refine Yv k19 (Lt rfl) ?_;refine Uo hne ?_;refine Qqy (c:=V5.cells) (vs:=s) rfl ?_;refine ifF hb ?_;refine Uo (Xg (c:=V5.cells) (e:=2) (l:=([]:List V5)) (fun _=>rfl) rfl (by rw [Q3b];exact h1)) ?_;show Exists _;exact ⟨rho [1],(rL (by simp [Qg]) rfl <| rN),(hO rfl <| hN),rfl,rfl,(roE (Yw _ _ _) <| roN)⟩
end
end Go.Av
