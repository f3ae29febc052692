/- Part of FrommqttCalls: the law returns true; no condition. -/
import Derived.Test.YtbcddiagcaddbaaGreatDoorAvGc
import Derived.Test.YtbcddiagcaddbaaGreatDoorAvDrawt
import Derived.Test.YtbcddiagcaddbaaGreatDoorAvSelf
set_option linter.all false
namespace Go.Av
noncomputable section
section
variable {P:Program} {Gl:Nat->Option (List PV)} {α β R:Type}
theorem iU {b:Bool} {x y:Option R} {r:R} {X Y:Prop} (h:cond b x y=some r) (h1:x=some r->X) (h2:y=some r->Y) : @Bool.rec (fun _=>Prop) Y X b:=ifO h (fun _=>h1) (fun _=>h2)
theorem kU {b:Bool} {x:Option R} {r:R} {X:Prop} (h:cond b x none=some r) (h1:x=some r->X) : @Bool.rec (fun _=>Prop) (EP P Gl).fail X b:=by
 obtain ⟨h2,h3⟩:=Q48 h;exact Q0r h2 (h1 h3)
section
variable {K:Nat->Prop} {H:List AObj} {a b c d e f:PV}
theorem p0:FrzL K H [] [] := .nil
theorem p1:FrzL K H [.p a] [a] := .cons (.p _) .nil
theorem p2:FrzL K H [.p a,.p b] [a,b] := .cons (.p _) p1
theorem p3:FrzL K H [.p a,.p b,.p c] [a,b,c] := .cons (.p _) p2
theorem p4:FrzL K H [.p a,.p b,.p c,.p d] [a,b,c,d] := .cons (.p _) p3
theorem p5:FrzL K H [.p a,.p b,.p c,.p d,.p e] [a,b,c,d,e] := .cons (.p _) p4
theorem q4:Frz K H (.agg [.p a,.p b,.p c,.p d]) (.agg [a,b,c,d]):=Ap p4
theorem q2:Frz K H (.agg [.p a,.p b]) (.agg [a,b]):=Ap p2
theorem u2:Frz K H (.tuple [.p a,.p b]) (.tuple [a,b]):=Aq p2
theorem u3:Frz K H (.tuple [.p a,.p b,.p c]) (.tuple [a,b,c]):=Aq p3
theorem q4n {n:Nat}:Frz K H (.agg [.p a,.p b,.p c,.p .nilSlice]) (.agg [a,b,c,.slice n []]):=Ap (.cons (.p _) (.cons (.p _) (.cons (.p _) (.cons (.nil _) .nil))))
end
section
variable {x:Option α} {F : α->Option β} {r : β} {f:Nat} {pargs:List PV} {g : α->PV} {H:List AObj} {args:List AV}
theorem cP (h:x.bind F=some r) (hp:∀ {v},x=some v->Qd9 P Gl f pargs (g v)) (hf:FrzL (fun _=>False) H args pargs) {Q:AV->List AObj->Prop} (hq:∀ v,F v=some r->Q (.p (g v)) H):Ue P Gl f args H Q:=by
 obtain ⟨v,h1,h2⟩:=Q3o h;exact Q6r (hp h1) hf (hq v h2)
theorem cD (h:x.bind F=some r) (hp:∀ {v},x=some v->Qd9 P Gl f pargs (g v)) (hf:FrzL (fun _=>False) H args pargs) {k:AV->List AObj->List Nat->List Nat->Prop} (hq:∀ v,F v=some r->k (.p (g v)) H [] []):Q06 P Gl f args H k:=by
 obtain ⟨v,h1,h2⟩:=Q3o h;exact Q52 (hp h1) hf (hq v h2)
theorem cK (h:x.bind F=some r) (hp:∀ {v},x=some v->Qd9 P Gl f pargs (g v)) (hf:FrzL (fun _=>True) H args pargs) {Q:AV->List AObj->Prop} (hq:∀ v,F v=some r->Q (.p (g v)) H) (hr:∀ v,Q8m (g v)=true:=by exact fun _=>rfl):Ue P Gl f args H Q:=by
 obtain ⟨v,h1,h2⟩:=Q3o h;exact Qf6 (hp h1) hf (hr v) (hq v h2)
theorem dL (h:x.bind F=some r) (hp:∀ {v},x=some v->Qd9 P Gl f pargs (g v)) (W:List Nat) (hf:FrzL (fun a=>a∈W) H args pargs) {k:AV->List AObj->List Nat->List Nat->Prop} (hq:∀ v,F v=some r->k (.p (g v)) H W []) (hr:∀ v,Q8m (g v)=true:=by exact fun _=>rfl):Q06 P Gl f args H k:=by
 obtain ⟨v,h1,h2⟩:=Q3o h;exact Qtp (hp h1) W hf (hr v) (hq v h2)
end
theorem xR {T:Type} {c:T->List PV} {l:List T} {i:Int} {F:T->Option β} {r : β} (h:(idx l i).bind F=some r) {k:List PV->Prop} (hq:∀ y,F y=some r->k (c y)):Qy6 (EP P Gl) (Q7 c l) i k:=by
 obtain ⟨y,h1,h2⟩:=Q3o h;exact Zoh (idx_rows h1) (hq y h2)
theorem xB {l:List UInt8} {i:Int} {F:UInt8->Option β} {r : β} (h:(idx l i).bind F=some r) {k:UInt8->Prop} (hq:∀ y,F y=some r->k y):Qy6 (EP P Gl) l i k:=by
 obtain ⟨y,h1,h2⟩:=Q3o h;exact Zoh h1 (hq y h2)
section
variable {ρ:Nat->Nat} {K:Nat->Prop} {H:List AObj}
theorem hJ {i:Nat} {o:AObj} {r:List AObj} (e:H[ρ i]? = some (Qg5 ρ o)) (h:Qh7 ρ K H (i+1) r):Qh7 ρ K H i (o::r):=hE e h
end
theorem Q0t {T:Type} {c:T->List PV} {vs:List T} {rows:List (List PV)} (e:rows=Q7 c vs) {k:List AV->Prop} (h:k (Q0g c vs)) :
  @List.rec PV (fun _=>Up hi9 ((List AV->Prop)->Prop)) (fun k=>k []) (fun v _ ih k=>ih fun r=>k (AV.p v::r)) rows.flatten k:=by
 show Qe9 AV.p rows.flatten k;rw [J8,e,← Qc4];exact h
abbrev iI (n:Int):AV := .p (.int .i64 n)
abbrev iW (n:Int):AV := .p (.int .u64 n)
abbrev iS (s:List UInt8):AV := .p (.str s)
abbrev a2 (l:List AV):List AV := .any :: .any::l
abbrev a4 (l:List AV):List AV := .any :: .any :: .any :: .any::l
abbrev a8 (l:List AV):List AV := .any :: .any :: .any :: .any :: .any :: .any :: .any :: .any::l
abbrev a16 (l:List AV):List AV:=a8 (a8 l)
abbrev lb {a b:Nat} (h:Nat.ble a b=true:=by rfl):a≤b:=Mb h
theorem lpC {τ:Type} (T : τ->List AV) (Hs : τ->List AObj) (L:Nat->τ->Option R) {r:R} {N:Nat} {b:CC} {tm:List AV} {H:List AObj} {Q:CExit->List AV->List AObj->Prop} (s0 : τ) (h:L N s0=some r) (ρ:Nat->Nat) (hw:Ren ρ H.length tm H (T s0) (Hs s0))
  (Zf:∀ n s,L (n+1) s=some r->ev (EP P Gl) b (T s) (Hs s) (Qs7 H.length (fun s:Nat × τ=>T s.2) (fun s=>Hs s.2) (fun s=>L s.1 s.2=some r) (fun s=>s.1) (n+1,s) Q)) (h0:∀ s,L 0 s=none:=by exact fun _=>rfl) (hl:∀ s,Nat.ble H.length (Hs s).length=true:=by exact fun _=>rfl):Qdu P Gl b tm H Q:=by
 refine Qrj (σ:=Nat × τ) (fun s=>T s.2) (fun s=>Hs s.2) (fun s=>L s.1 s.2=some r) (fun s=>s.1) (N,s0) h ⟨ρ,hw⟩ (fun s _=>Mb (hl s.2)) ?_
 rintro ⟨n,s⟩ h
 cases n with
 | zero=>rw [h0 s] at h;cases h
 | succ n=>exact Zf n s h
section
variable {b:Bool} {x y:Option R} {r:R} {X Y:Prop}
theorem iL (h:cond b x y=some r) (h2:y=some r->Y) (h1:x=some r->X:=by intro h;cases h;exact .p _) : @Bool.rec (fun _=>Prop) Y X b:=iU h h1 h2
theorem iR (h:cond b x y=some r) (h1:x=some r->X) (h2:y=some r->Y:=by intro h;cases h;exact .p _) : @Bool.rec (fun _=>Prop) Y X b:=iU h h1 h2
theorem iB (h:cond b x y=some r) (h1:x=some r->X:=by intro h;cases h;exact .p _) (h2:y=some r->Y:=by intro h;cases h;exact .p _) : @Bool.rec (fun _=>Prop) Y X b:=iU h h1 h2
theorem iL2 (h:cond b x y=some r) (h2:y=some r->Y) (h1:x=some r->X:=by intro h;obtain rfl:=Qi h;exact u2) : @Bool.rec (fun _=>Prop) Y X b:=iU h h1 h2
theorem iR2 (h:cond b x y=some r) (h1:x=some r->X) (h2:y=some r->Y:=by intro h;obtain rfl:=Qi h;exact u2) : @Bool.rec (fun _=>Prop) Y X b:=iU h h1 h2
theorem iB2 (h:cond b x y=some r) (h1:x=some r->X:=by intro h;obtain rfl:=Qi h;exact u2) (h2:y=some r->Y:=by intro h;obtain rfl:=Qi h;exact u2) : @Bool.rec (fun _=>Prop) Y X b:=iU h h1 h2
theorem oR (h:cond b x y=some r) (h1:b=true->x=some r->X) (h2:b=false->y=some r->Y:=by intro _ h;cases h;exact .p _) : @Bool.rec (fun _=>Prop) Y X b:=ifO h h1 h2
theorem oL2 (h:cond b x y=some r) (h2:b=false->y=some r->Y) (h1:b=true->x=some r->X:=by intro _ h;obtain rfl:=Qi h;exact u2) : @Bool.rec (fun _=>Prop) Y X b:=ifO h h1 h2
theorem dT (h:X) (hb:b=true:=by exact cF (by decide)) : @Bool.rec (fun _=>Prop) Y X b:=ifT hb h
theorem dF (h:Y) (hb:b=false:=by exact cF (by decide)) : @Bool.rec (fun _=>Prop) Y X b:=ifF hb h
end
theorem Qqk {x c k:Int} {o:Cmp} {b:Bool} (h:(x == c)=true) (hd:Q4 o c k=b):Qmr o x k=b:=by
 rw [cmpX_eq,eq_of_beq h];exact hd
theorem sd {n m:Nat} (h:n=m:=by first | (simp;done) | (simp [Q7];done)):n=m:=h
theorem Yf {ρ:Nat->Nat} {n:Nat} {tm tm':List AV} {H H':List AObj} (h1:RenL ρ (KD ρ H') H tm tm':=by repeat' first | exact rN | refine rA ?_ | refine rE rfl ?_ | refine rS ?_ | refine rL (by first | (simp;done) | (simp [Q7];done) | (simp<;>omega)) rfl ?_ | refine rG (by repeat' first | exact rN | refine rE rfl ?_ | refine rA ?_ | refine rS ?_ | refine rL (by first | (simp;done) | (simp [Q7];done) | (simp<;>omega)) rfl ?_) ?_ | refine rP (by repeat' first | exact rN | refine rE rfl ?_ | refine rA ?_ | refine rS ?_ | refine rL (by first | (simp;done) | (simp [Q7];done) | (simp<;>omega)) rfl ?_) ?_ | refine rT (by repeat' first | refine rG (by repeat' first | exact rN | refine rE rfl ?_ | refine rA ?_ | refine rS ?_ | refine rL (by first | (simp;done) | (simp [Q7];done) | (simp<;>omega)) rfl ?_) ?_ | refine rP (by repeat' first | exact rN | refine rE rfl ?_ | refine rA ?_ | refine rS ?_ | refine rL (by first | (simp;done) | (simp [Q7];done) | (simp<;>omega)) rfl ?_) ?_ | exact rN | refine rE rfl ?_ | refine rA ?_ | refine rS ?_ | refine rL (by first | (simp;done) | (simp [Q7];done) | (simp<;>omega)) rfl ?_) ?_) (h2:Qh7 ρ (KD ρ H') H 0 H':=by repeat' first | exact hN | refine hO rfl ?_ | refine hD ?_ | refine hE rfl ?_ | refine hV lb ?_ | refine hC rfl (by repeat' first | exact rN | refine rE rfl ?_ | refine rA ?_ | refine rS ?_ | refine rL (by first | (simp;done) | (simp [Q7];done) | (simp<;>omega)) rfl ?_) ?_)
  (h3:Z18 ρ n H'=true:=by rfl) (h4:refsLt.refsLts H'.length tm'=true:=by rfl) (h5:(H'.all (Q6d H'.length))=true:=by repeat' first | exact roN | refine roE rfl ?_ | refine roE (Qcv _ _ _) ?_):Ren ρ n tm H tm' H':=⟨h1,h2,h3,h4,h5⟩
mutual
theorem Qq0:∀ v:AV,Q8c (fun i=>i) v=v
 | .ptr _ _=>rfl
 | .slice _ _ _ _=>rfl
 | .map _=>rfl
 | .agg cs=>by simp only [Q8c,Qcw cs]
 | .tuple cs=>by simp only [Q8c,Qcw cs]
 | .func _ a b=>by simp only [Q8c,Qcw a,Qcw b]
 | .iface _ v=>by simp only [Q8c,Qq0 v]
 | .p _=>rfl
 | .gptr _ _=>rfl
 | .rptr _=>rfl
 | .any=>rfl
theorem Qcw:∀ l:List AV,Qi0 (fun i=>i) l=l
 | []=>rfl
 | v::l=>by simp only [Qi0,Qq0 v,Qcw l]
end
theorem Qnh (o:AObj):Qg5 (fun i=>i) o=o:=by
 cases o with
 | cells cs=>simp only [Qg5,Qcw]
 | map es=>simp only [Qg5,Qq0];congr 1;exact List.map_id _
 | strIter s p=>rfl
 | dead=>rfl
 | ext R a=>rfl
theorem Qvw {K:Nat->Prop} {H:List AObj}:∀ (i:Nat) (r:List AObj),(∀ j o,r[j]? = some o->H[i+j]? = some o)->Qh7 (fun i=>i) K H i r
 | _,[],_=>trivial
 | i,o::r,h=>by
  have t:Qh7 (fun i=>i) K H (i+1) r:=Qvw (i+1) r fun j o' hj=>by have:=h (j+1) o' (by simpa using hj);rwa [show i+(j+1)=i+1+j by omega] at this
  have e:H[i]? = some o:=by have:=h 0 o rfl;simpa using this
  cases o with
  | dead=>exact t
  | cells cs=>exact hE (by rw [Qnh];exact e) t
  | map es=>exact hE (by rw [Qnh];exact e) t
  | strIter s p=>exact hE (by rw [Qnh];exact e) t
  | ext R a=>exact hE (by rw [Qnh];exact e) t
theorem Z2c (n:Nat) (H:List AObj):Z18 (fun i=>i) n H=true:=by
 simp only [Z18,Me,La];intro i _;refine ⟨by simp,fun j _=>?_⟩
 by_cases h:i=j
 ·simp [h]
 simp [h]
theorem Zr3 {n:Nat} {tm tm':List AV} {H:List AObj} (h1:RenL (fun i=>i) (KD (fun i=>i) H) H tm tm') (h4:refsLt.refsLts H.length tm'=true) (h5:(H.all (Q6d H.length))=true):Ren (fun i=>i) n tm H tm' H:=
 ⟨h1,Qvw 0 H (fun j o h=>by rw [Mq];exact h),Z2c n H,h4,h5⟩
theorem lpH {τ:Type} (T : τ->List AV) (L:Nat->τ->Option R) {r:R} {N:Nat} {b:CC} {tm:List AV} {H:List AObj} {Q:CExit->List AV->List AObj->Prop} (s0 : τ) (h:L N s0=some r)
  (Zf:∀ n s,L (n+1) s=some r->ev (EP P Gl) b (T s) H (Qs7 H.length (fun s:Nat × τ=>T s.2) (fun _=>H) (fun s=>L s.1 s.2=some r) (fun s=>s.1) (n+1,s) Q))
  (h1:RenL (fun i=>i) (KD (fun i=>i) H) H tm (T s0):=by repeat' first | exact rN | refine rA ?_ | refine rE rfl ?_) (h4:refsLt.refsLts H.length (T s0)=true:=by rfl) (h5:(H.all (Q6d H.length))=true:=by repeat' first | exact roN | refine roE rfl ?_ | refine roE (Qcv _ _ _) ?_)
  (h0:∀ s,L 0 s=none:=by exact fun _=>rfl):Qdu P Gl b tm H Q:=by
 refine Qrj (σ:=Nat × τ) (fun s=>T s.2) (fun _=>H) (fun s=>L s.1 s.2=some r) (fun s=>s.1) (N,s0) h ⟨_,Zr3 h1 h4 h5⟩ (fun _ _=>Lj _) ?_
 rintro ⟨n,s⟩ h
 cases n with
 | zero=>rw [h0 s] at h;cases h
 | succ n=>exact Zf n s h
theorem lpA {τ:Type} (T : τ->List AV) (Hs : τ->List AObj) (L:Nat->τ->Option R) {r:R} {N:Nat} {b:CC} {tm:List AV} {H:List AObj} {Q:CExit->List AV->List AObj->Prop} (s0 : τ) (h:L N s0=some r)
  (Zf:∀ n s,L (n+1) s=some r->ev (EP P Gl) b (T s) (Hs s) (Qs7 H.length (fun s:Nat × τ=>T s.2) (fun s=>Hs s.2) (fun s=>L s.1 s.2=some r) (fun s=>s.1) (n+1,s) Q)) (hw:Ren (fun i=>i) H.length tm H (T s0) (Hs s0):=by exact Yf) (h0:∀ s,L 0 s=none:=by exact fun _=>rfl) (hl:∀ s,Nat.ble H.length (Hs s).length=true:=by exact fun _=>rfl):Qdu P Gl b tm H Q:=lpC T Hs L s0 h _ hw Zf h0 hl
theorem jrH {σ:Type} {r:R} (T : σ->List AV) (J : σ->Option R) {a b:CC} {tm:List AV} {H:List AObj} {Q:CExit->List AV->List AObj->Prop}
  (h1:ev (EP P Gl) a tm H (Qys H.length T (fun _=>H) (fun s=>J s=some r) Q)) (h2:∀ s,J s=some r->ev (EP P Gl) b (T s) H Q):Z5z P Gl a b tm H Q:=Vl T (fun _=>H) _ (fun _ _=>Lj _) h1 h2
theorem jrA {σ:Type} {r:R} (T : σ->List AV) (Hs : σ->List AObj) (J : σ->Option R) {a b:CC} {tm:List AV} {H:List AObj} {Q:CExit->List AV->List AObj->Prop}
  (h1:ev (EP P Gl) a tm H (Qys H.length T Hs (fun s=>J s=some r) Q)) (h2:∀ s,J s=some r->ev (EP P Gl) b (T s) (Hs s) Q) (hl:∀ s,Nat.ble H.length (Hs s).length=true:=by exact fun _=>rfl):Z5z P Gl a b tm H Q:=Vl T Hs _ (fun s _=>Mb (hl s)) h1 h2
end
section
variable {P:Program} {Gl:Nat->Option (List PV)} {α β R:Type}
noncomputable def Z9m (H l:List AObj) (k:List AObj->Prop):Prop := @List.rec AObj (fun _=>(List AObj->Prop)->Prop) (fun k=>k l) (fun o _ ih k=>ih fun r=>k (o::r)) H k
theorem Qr7:∀ (H l:List AObj) (k:List AObj->Prop),Z9m H l k=k (H++l)
 | [],l,k=>rfl
 | o::H,l,k=>Qr7 H l fun r=>k (o::r)
theorem Qrr {f:Nat->Nat} {H H1:List AObj}:∀ (r:List AObj) (i:Nat),i+r.length=H.length+H1.length->(∀ j o,r[j]? = some o->(H++H1.map (Qg5 (Qut f 0 H.length)))[i+j]? = some o)->Qw3 f H [] H1 i r
 | [],_,_,_=>trivial
 | o::r,i,hl,h=>by
  rw [Li] at hl
  have t:Qw3 f H [] H1 (i+1) r:=Qrr r (i+1) (by omega) fun j o' hj=>by have:=h (j+1) o' (by simpa using hj);rwa [show i+(j+1)=i+1+j by omega] at this
  have e:=h 0 o rfl;rw [Nt] at e;refine fX ?_ t
  by_cases hi:i<H.length
  ·rw [Lr hi] at e;exact .inl ⟨rfl,e⟩
  rw [Ly (by omega),Lo] at e
  cases hq:H1[i - H.length]? with
  | none=>rw [hq] at e;cases e
  | some o1=>
   rw [hq] at e;exact .inr ⟨i - H.length,o1,hq,by simp only [Qut];rw [Ae (by simp)];simp;omega,fun h=>by simp at h,(Am e).symm⟩
theorem cO {x:Option α} {F : α->Option β} {r : β} {f:Nat} {a0 args:List AV} {H:List AObj} {gr : α->AV} {g1 : α->List AObj} (h:x.bind F=some r) (hp:∀ {v},x=some v->GC P Gl f a0 [] (gr v) (g1 v)) (r2 : α->AV) (hf:RenL (fun i=>i) (fun _=>False) H args a0)
  {Q:AV->List AObj->Prop} (hq:∀ v,F v=some r->Z9m H (g1 v) fun H2=>Q (r2 v) H2) (hr:∀ v,Q8c (Qut (fun i=>i) 0 H.length) (gr v)=r2 v:=by exact fun _=>rfl)
  (ho:∀ v s,(g1 v).map (Qg5 s)=g1 v:=by intro v s;repeat' first | exact oN | refine oW ?_) (hra:refsLt.refsLts 0 a0=true:=by rfl):Ue P Gl f args H Q:=by
 obtain ⟨v,h1,h2⟩:=Q3o h;have hq:=hq v h2;rw [Qr7] at hq;refine Z3k (hp h1) (fun i=>i) hf trivial rfl hra rfl (H++g1 v) (by simp) (Qrr (H1:=g1 v) _ 0 (by simp) fun j o hj=>by rw [Mq,ho];exact hj) (r2 v) (hr v) hq
theorem dcO {x:Option α} {F : α->Option β} {r : β} {f:Nat} {a0 args:List AV} {H:List AObj} {gr : α->AV} {g1 : α->List AObj} (h:x.bind F=some r) (hp:∀ {v},x=some v->GC P Gl f a0 [] (gr v) (g1 v)) (A:List Nat) (r2 : α->AV) (hf:RenL (fun i=>i) (fun _=>False) H args a0)
  {k:AV->List AObj->List Nat->List Nat->Prop} (hq:∀ v,F v=some r->Z9m H (g1 v) fun H2=>k (r2 v) H2 [] A) (hr:∀ v,Q8c (fun j=>H.length+j) (gr v)=r2 v:=by exact fun _=>rfl)
  (ho:∀ v s,(g1 v).map (Qg5 s)=g1 v:=by intro v s;repeat' first | exact oN | refine oW ?_) (hra:refsLt.refsLts 0 a0=true:=by rfl) (hl:∀ v,Nat.ble 1 (g1 v).length=true:=by exact fun _=>rfl) (hA:∀ v,List.range' H.length (g1 v).length=A:=by exact fun _=>rfl):Q06 P Gl f args H k:=by
 obtain ⟨v,h1,h2⟩:=Q3o h;have hq:=hq v h2;rw [Qr7] at hq;exact Qxx (hp h1) (hl v) hf hra A (hA v) (hr v) (by rw [ho]) hq
end
end
end Go.Av
