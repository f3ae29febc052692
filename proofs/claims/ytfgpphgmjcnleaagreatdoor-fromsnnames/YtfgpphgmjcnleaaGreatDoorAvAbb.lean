/- Part of FromsnNames: the law returns true; no condition. -/
import Derived.Test.YtfgpphgmjcnleaaGreatDoorAvGc
import Derived.Test.YtfgpphgmjcnleaaGreatDoorAvDrawt
import Derived.Test.YtfgpphgmjcnleaaGreatDoorAvSelf
set_option linter.all false
namespace Go.Av
noncomputable section
section
variable {P:Program} {Gl:Nat->Option (List PV)} {α β R:Type}
theorem iU {b:Bool} {x y:Option R} {r:R} {X Y:Prop} (h:cond b x y=some r) (h1:x=some r->X) (h2:y=some r->Y) : @Bool.rec (fun _=>Prop) Y X b:=ifO h (fun _=>h1) (fun _=>h2)
theorem kU {b:Bool} {x:Option R} {r:R} {X:Prop} (h:cond b x none=some r) (h1:x=some r->X) : @Bool.rec (fun _=>Prop) (EP P Gl).fail X b:=by
 obtain ⟨h2,h3⟩:=Q3x h;exact Uo h2 (h1 h3)
section
variable {K:Nat->Prop} {H:List AObj} {a b c d e f:PV}
theorem p0:FrzL K H [] [] := .nil
theorem p1:FrzL K H [.p a] [a] := .cons (.p _) .nil
theorem p2:FrzL K H [.p a,.p b] [a,b] := .cons (.p _) p1
theorem p3:FrzL K H [.p a,.p b,.p c] [a,b,c] := .cons (.p _) p2
theorem p4:FrzL K H [.p a,.p b,.p c,.p d] [a,b,c,d] := .cons (.p _) p3
theorem p5:FrzL K H [.p a,.p b,.p c,.p d,.p e] [a,b,c,d,e] := .cons (.p _) p4
theorem q4:Frz K H (.agg [.p a,.p b,.p c,.p d]) (.agg [a,b,c,d]):=Ar p4
theorem q2:Frz K H (.agg [.p a,.p b]) (.agg [a,b]):=Ar p2
theorem u2:Frz K H (.tuple [.p a,.p b]) (.tuple [a,b]):=At p2
theorem q4n {n:Nat}:Frz K H (.agg [.p a,.p b,.p c,.p .nilSlice]) (.agg [a,b,c,.slice n []]):=Ar (.cons (.p _) (.cons (.p _) (.cons (.p _) (.cons (.nil _) .nil))))
end
section
variable {x:Option α} {F : α->Option β} {r : β} {f:Nat} {pargs:List PV} {g : α->PV} {H:List AObj} {args:List AV}
theorem cP (h:x.bind F=some r) (hp:∀ {v},x=some v->Q5r P Gl f pargs (g v)) (hf:FrzL (fun _=>False) H args pargs) {Q:AV->List AObj->Prop} (hq:∀ v,F v=some r->Q (.p (g v)) H):Q8 P Gl f args H Q:=by
 obtain ⟨v,h1,h2⟩:=Vd h;exact Y1 (hp h1) hf (hq v h2)
theorem cD (h:x.bind F=some r) (hp:∀ {v},x=some v->Q5r P Gl f pargs (g v)) (hf:FrzL (fun _=>False) H args pargs) {k:AV->List AObj->List Nat->List Nat->Prop} (hq:∀ v,F v=some r->k (.p (g v)) H [] []):Qv P Gl f args H k:=by
 obtain ⟨v,h1,h2⟩:=Vd h;exact Jm (hp h1) hf (hq v h2)
theorem dL (h:x.bind F=some r) (hp:∀ {v},x=some v->Q5r P Gl f pargs (g v)) (W:List Nat) (hf:FrzL (fun a=>a∈W) H args pargs) {k:AV->List AObj->List Nat->List Nat->Prop} (hq:∀ v,F v=some r->k (.p (g v)) H W []) (hr:∀ v,Wf (g v)=true:=by exact fun _=>rfl):Qv P Gl f args H k:=by
 obtain ⟨v,h1,h2⟩:=Vd h;exact Qj8 (hp h1) W hf (hr v) (hq v h2)
theorem cG {a0:List AV} {H0:List AObj} {gr : α->AV} {g1 : α->List AObj} (h:x.bind F=some r) (hp:∀ {v},x=some v->GC P Gl f a0 H0 (gr v) (g1 v)) {Q:AV->List AObj->Prop}
  (hq:∀ v,F v=some r->∃ ρ H2 r2,GcP ρ args H a0 H0 (g1 v) (gr v) H2 r2∧Q r2 H2):Q8 P Gl f args H Q:=by
 obtain ⟨v,h1,h2⟩:=Vd h;exact Qdg (hp h1) (hq v h2)
end
theorem xR {T:Type} {c:T->List PV} {l:List T} {i:Int} {F:T->Option β} {r : β} (h:(idx l i).bind F=some r) {k:List PV->Prop} (hq:∀ y,F y=some r->k (c y)):Qmf (EP P Gl) (Qg c l) i k:=by
 obtain ⟨y,h1,h2⟩:=Vd h;exact Z1w (idx_rows h1) (hq y h2)
theorem xB {l:List UInt8} {i:Int} {F:UInt8->Option β} {r : β} (h:(idx l i).bind F=some r) {k:UInt8->Prop} (hq:∀ y,F y=some r->k y):Qmf (EP P Gl) l i k:=by
 obtain ⟨y,h1,h2⟩:=Vd h;exact Z1w h1 (hq y h2)
section
variable {ρ:Nat->Nat} {K:Nat->Prop} {H:List AObj}
theorem hJ {i:Nat} {o:AObj} {r:List AObj} (e:H[ρ i]? = some (Q2d ρ o)) (h:Q7q ρ K H (i+1) r):Q7q ρ K H i (o::r):=hE e h
end
theorem Qqy {T:Type} {c:T->List PV} {vs:List T} {rows:List (List PV)} (e:rows=Qg c vs) {k:List AV->Prop} (h:k (Z0 c vs)) :
  @List.rec PV (fun _=>Up hi9 ((List AV->Prop)->Prop)) (fun k=>k []) (fun v _ ih k=>ih fun r=>k (AV.p v::r)) rows.flatten k:=by
 show Q54 AV.p rows.flatten k;rw [Zu,e,← Q45];exact h
abbrev iI (n:Int):AV := .p (.int .i64 n)
abbrev iW (n:Int):AV := .p (.int .u64 n)
abbrev iS (s:List UInt8):AV := .p (.str s)
abbrev a2 (l:List AV):List AV := .any :: .any::l
abbrev a4 (l:List AV):List AV := .any :: .any :: .any :: .any::l
abbrev a8 (l:List AV):List AV := .any :: .any :: .any :: .any :: .any :: .any :: .any :: .any::l
abbrev a16 (l:List AV):List AV:=a8 (a8 l)
abbrev lb {a b:Nat} (h:Nat.ble a b=true:=by rfl):a≤b:=Lt h
theorem lpC {τ:Type} (T : τ->List AV) (Hs : τ->List AObj) (L:Nat->τ->Option R) {r:R} {N:Nat} {b:CC} {tm:List AV} {H:List AObj} {Q:CExit->List AV->List AObj->Prop} (s0 : τ) (h:L N s0=some r) (ρ:Nat->Nat) (hw:Ren ρ H.length tm H (T s0) (Hs s0))
  (Ql:∀ n s,L (n+1) s=some r->ev (EP P Gl) b (T s) (Hs s) (Qha H.length (fun s:Nat × τ=>T s.2) (fun s=>Hs s.2) (fun s=>L s.1 s.2=some r) (fun s=>s.1) (n+1,s) Q)) (h0:∀ s,L 0 s=none:=by exact fun _=>rfl) (hl:∀ s,Nat.ble H.length (Hs s).length=true:=by exact fun _=>rfl):Q3g P Gl b tm H Q:=by
 refine Qhh (σ:=Nat × τ) (fun s=>T s.2) (fun s=>Hs s.2) (fun s=>L s.1 s.2=some r) (fun s=>s.1) (N,s0) h ⟨ρ,hw⟩ (fun s _=>Lt (hl s.2)) ?_
 rintro ⟨n,s⟩ h
 cases n with
 | zero=>rw [h0 s] at h;cases h
 | succ n=>exact Ql n s h
section
variable {b:Bool} {x y:Option R} {r:R} {X Y:Prop}
theorem iL (h:cond b x y=some r) (h2:y=some r->Y) (h1:x=some r->X:=by intro h;cases h;exact .p _) : @Bool.rec (fun _=>Prop) Y X b:=iU h h1 h2
theorem iR (h:cond b x y=some r) (h1:x=some r->X) (h2:y=some r->Y:=by intro h;cases h;exact .p _) : @Bool.rec (fun _=>Prop) Y X b:=iU h h1 h2
theorem iB (h:cond b x y=some r) (h1:x=some r->X:=by intro h;cases h;exact .p _) (h2:y=some r->Y:=by intro h;cases h;exact .p _) : @Bool.rec (fun _=>Prop) Y X b:=iU h h1 h2
theorem iL2 (h:cond b x y=some r) (h2:y=some r->Y) (h1:x=some r->X:=by intro h;obtain rfl:=Qb h;exact u2) : @Bool.rec (fun _=>Prop) Y X b:=iU h h1 h2
theorem iB2 (h:cond b x y=some r) (h1:x=some r->X:=by intro h;obtain rfl:=Qb h;exact u2) (h2:y=some r->Y:=by intro h;obtain rfl:=Qb h;exact u2) : @Bool.rec (fun _=>Prop) Y X b:=iU h h1 h2
theorem dT (h:X) (hb:b=true:=by exact cF (by decide)) : @Bool.rec (fun _=>Prop) Y X b:=ifT hb h
theorem dF (h:Y) (hb:b=false:=by exact cF (by decide)) : @Bool.rec (fun _=>Prop) Y X b:=ifF hb h
end
theorem sd {n m:Nat} (h:n=m:=by first | (simp;done) | (simp [Qg];done)):n=m:=h
theorem Z2 {ρ:Nat->Nat} {n:Nat} {tm tm':List AV} {H H':List AObj} (h1:RenL ρ (KD ρ H') H tm tm':=by repeat' first | exact rN | refine rA ?_ | refine rE rfl ?_ | refine rS ?_ | refine rL (by first | (simp;done) | (simp [Qg];done) | (simp<;>omega)) rfl ?_ | refine rG (by repeat' first | exact rN | refine rE rfl ?_ | refine rA ?_ | refine rS ?_ | refine rL (by first | (simp;done) | (simp [Qg];done) | (simp<;>omega)) rfl ?_) ?_ | refine rP (by repeat' first | exact rN | refine rE rfl ?_ | refine rA ?_ | refine rS ?_ | refine rL (by first | (simp;done) | (simp [Qg];done) | (simp<;>omega)) rfl ?_) ?_ | refine rT (by repeat' first | refine rG (by repeat' first | exact rN | refine rE rfl ?_ | refine rA ?_ | refine rS ?_ | refine rL (by first | (simp;done) | (simp [Qg];done) | (simp<;>omega)) rfl ?_) ?_ | refine rP (by repeat' first | exact rN | refine rE rfl ?_ | refine rA ?_ | refine rS ?_ | refine rL (by first | (simp;done) | (simp [Qg];done) | (simp<;>omega)) rfl ?_) ?_ | exact rN | refine rE rfl ?_ | refine rA ?_ | refine rS ?_ | refine rL (by first | (simp;done) | (simp [Qg];done) | (simp<;>omega)) rfl ?_) ?_) (h2:Q7q ρ (KD ρ H') H 0 H':=by repeat' first | exact hN | refine hO rfl ?_ | refine hD ?_ | refine hE rfl ?_ | refine hV lb ?_ | refine hC rfl (by repeat' first | exact rN | refine rE rfl ?_ | refine rA ?_ | refine rS ?_ | refine rL (by first | (simp;done) | (simp [Qg];done) | (simp<;>omega)) rfl ?_) ?_)
  (h3:Ql2 ρ n H'=true:=by rfl) (h4:refsLt.refsLts H'.length tm'=true:=by rfl) (h5:(H'.all (Yn H'.length))=true:=by repeat' first | exact roN | refine roE rfl ?_ | refine roE (Yw _ _ _) ?_):Ren ρ n tm H tm' H':=⟨h1,h2,h3,h4,h5⟩
mutual
theorem Qds:∀ v:AV,Js (fun i=>i) v=v
 | .ptr _ _=>rfl
 | .slice _ _ _ _=>rfl
 | .map _=>rfl
 | .agg cs=>by simp only [Js,Q4i cs]
 | .tuple cs=>by simp only [Js,Q4i cs]
 | .func _ a b=>by simp only [Js,Q4i a,Q4i b]
 | .iface _ v=>by simp only [Js,Qds v]
 | .p _=>rfl
 | .gptr _ _=>rfl
 | .rptr _=>rfl
 | .any=>rfl
theorem Q4i:∀ l:List AV,Q7i (fun i=>i) l=l
 | []=>rfl
 | v::l=>by simp only [Q7i,Qds v,Q4i l]
end
theorem Qdk (o:AObj):Q2d (fun i=>i) o=o:=by
 cases o with
 | cells cs=>simp only [Q2d,Q4i]
 | map es=>simp only [Q2d,Qds];congr 1;exact List.map_id _
 | strIter s p=>rfl
 | dead=>rfl
 | ext R a=>rfl
theorem Qgj {K:Nat->Prop} {H:List AObj}:∀ (i:Nat) (r:List AObj),(∀ j o,r[j]? = some o->H[i+j]? = some o)->Q7q (fun i=>i) K H i r
 | _,[],_=>trivial
 | i,o::r,h=>by
  have t:Q7q (fun i=>i) K H (i+1) r:=Qgj (i+1) r fun j o' hj=>by have:=h (j+1) o' (by simpa using hj);rwa [show i+(j+1)=i+1+j by omega] at this
  have e:H[i]? = some o:=by have:=h 0 o rfl;simpa using this
  cases o with
  | dead=>exact t
  | cells cs=>exact hE (by rw [Qdk];exact e) t
  | map es=>exact hE (by rw [Qdk];exact e) t
  | strIter s p=>exact hE (by rw [Qdk];exact e) t
  | ext R a=>exact hE (by rw [Qdk];exact e) t
theorem Qka (n:Nat) (H:List AObj):Ql2 (fun i=>i) n H=true:=by
 simp only [Ql2,Lp,Lb];intro i _;refine ⟨by simp,fun j _=>?_⟩
 by_cases h:i=j
 ·simp [h]
 simp [h]
theorem Qsp {n:Nat} {tm tm':List AV} {H:List AObj} (h1:RenL (fun i=>i) (KD (fun i=>i) H) H tm tm') (h4:refsLt.refsLts H.length tm'=true) (h5:(H.all (Yn H.length))=true):Ren (fun i=>i) n tm H tm' H:=
 ⟨h1,Qgj 0 H (fun j o h=>by rw [Lv];exact h),Qka n H,h4,h5⟩
theorem lpH {τ:Type} (T : τ->List AV) (L:Nat->τ->Option R) {r:R} {N:Nat} {b:CC} {tm:List AV} {H:List AObj} {Q:CExit->List AV->List AObj->Prop} (s0 : τ) (h:L N s0=some r)
  (Ql:∀ n s,L (n+1) s=some r->ev (EP P Gl) b (T s) H (Qha H.length (fun s:Nat × τ=>T s.2) (fun _=>H) (fun s=>L s.1 s.2=some r) (fun s=>s.1) (n+1,s) Q))
  (h1:RenL (fun i=>i) (KD (fun i=>i) H) H tm (T s0):=by repeat' first | exact rN | refine rA ?_ | refine rE rfl ?_) (h4:refsLt.refsLts H.length (T s0)=true:=by rfl) (h5:(H.all (Yn H.length))=true:=by repeat' first | exact roN | refine roE rfl ?_ | refine roE (Yw _ _ _) ?_)
  (h0:∀ s,L 0 s=none:=by exact fun _=>rfl):Q3g P Gl b tm H Q:=by
 refine Qhh (σ:=Nat × τ) (fun s=>T s.2) (fun _=>H) (fun s=>L s.1 s.2=some r) (fun s=>s.1) (N,s0) h ⟨_,Qsp h1 h4 h5⟩ (fun _ _=>Lj _) ?_
 rintro ⟨n,s⟩ h
 cases n with
 | zero=>rw [h0 s] at h;cases h
 | succ n=>exact Ql n s h
theorem lpA {τ:Type} (T : τ->List AV) (Hs : τ->List AObj) (L:Nat->τ->Option R) {r:R} {N:Nat} {b:CC} {tm:List AV} {H:List AObj} {Q:CExit->List AV->List AObj->Prop} (s0 : τ) (h:L N s0=some r)
  (Ql:∀ n s,L (n+1) s=some r->ev (EP P Gl) b (T s) (Hs s) (Qha H.length (fun s:Nat × τ=>T s.2) (fun s=>Hs s.2) (fun s=>L s.1 s.2=some r) (fun s=>s.1) (n+1,s) Q)) (hw:Ren (fun i=>i) H.length tm H (T s0) (Hs s0):=by exact Z2) (h0:∀ s,L 0 s=none:=by exact fun _=>rfl) (hl:∀ s,Nat.ble H.length (Hs s).length=true:=by exact fun _=>rfl):Q3g P Gl b tm H Q:=lpC T Hs L s0 h _ hw Ql h0 hl
theorem jrH {σ:Type} {r:R} (T : σ->List AV) (J : σ->Option R) {a b:CC} {tm:List AV} {H:List AObj} {Q:CExit->List AV->List AObj->Prop}
  (h1:ev (EP P Gl) a tm H (Qn1 H.length T (fun _=>H) (fun s=>J s=some r) Q)) (h2:∀ s,J s=some r->ev (EP P Gl) b (T s) H Q):Qst P Gl a b tm H Q:=Qe2 T (fun _=>H) _ (fun _ _=>Lj _) h1 h2
theorem jrA {σ:Type} {r:R} (T : σ->List AV) (Hs : σ->List AObj) (J : σ->Option R) {a b:CC} {tm:List AV} {H:List AObj} {Q:CExit->List AV->List AObj->Prop}
  (h1:ev (EP P Gl) a tm H (Qn1 H.length T Hs (fun s=>J s=some r) Q)) (h2:∀ s,J s=some r->ev (EP P Gl) b (T s) (Hs s) Q) (hl:∀ s,Nat.ble H.length (Hs s).length=true:=by exact fun _=>rfl):Qst P Gl a b tm H Q:=Qe2 T Hs _ (fun s _=>Lt (hl s)) h1 h2
end
section
variable {P:Program} {Gl:Nat->Option (List PV)} {α β R:Type}
noncomputable def Qu7 (H l:List AObj) (k:List AObj->Prop):Prop := @List.rec AObj (fun _=>(List AObj->Prop)->Prop) (fun k=>k l) (fun o _ ih k=>ih fun r=>k (o::r)) H k
theorem Qgv:∀ (H l:List AObj) (k:List AObj->Prop),Qu7 H l k=k (H++l)
 | [],l,k=>rfl
 | o::H,l,k=>Qgv H l fun r=>k (o::r)
theorem Qgy {f:Nat->Nat} {H H1:List AObj}:∀ (r:List AObj) (i:Nat),i+r.length=H.length+H1.length->(∀ j o,r[j]? = some o->(H++H1.map (Q2d (Qfw f 0 H.length)))[i+j]? = some o)->Q8w f H [] H1 i r
 | [],_,_,_=>trivial
 | o::r,i,hl,h=>by
  rw [Mo] at hl
  have t:Q8w f H [] H1 (i+1) r:=Qgy r (i+1) (by omega) fun j o' hj=>by have:=h (j+1) o' (by simpa using hj);rwa [show i+(j+1)=i+1+j by omega] at this
  have e:=h 0 o rfl;rw [Nc] at e;refine fX ?_ t
  by_cases hi:i<H.length
  ·rw [Lh hi] at e;exact .inl ⟨rfl,e⟩
  rw [Lm (by omega),Lk] at e
  cases hq:H1[i - H.length]? with
  | none=>rw [hq] at e;cases e
  | some o1=>
   rw [hq] at e;exact .inr ⟨i - H.length,o1,hq,by simp only [Qfw];rw [Ae (by simp)];simp;omega,fun h=>by simp at h,(Am e).symm⟩
theorem cO {x:Option α} {F : α->Option β} {r : β} {f:Nat} {a0 args:List AV} {H:List AObj} {gr : α->AV} {g1 : α->List AObj} (h:x.bind F=some r) (hp:∀ {v},x=some v->GC P Gl f a0 [] (gr v) (g1 v)) (r2 : α->AV) (hf:RenL (fun i=>i) (fun _=>False) H args a0)
  {Q:AV->List AObj->Prop} (hq:∀ v,F v=some r->Qu7 H (g1 v) fun H2=>Q (r2 v) H2) (hr:∀ v,Js (Qfw (fun i=>i) 0 H.length) (gr v)=r2 v:=by exact fun _=>rfl)
  (ho:∀ v s,(g1 v).map (Q2d s)=g1 v:=by intro v s;repeat' first | exact oN | refine oW ?_) (hra:refsLt.refsLts 0 a0=true:=by rfl):Q8 P Gl f args H Q:=by
 obtain ⟨v,h1,h2⟩:=Vd h;have hq:=hq v h2;rw [Qgv] at hq;refine Qgs (hp h1) (fun i=>i) hf trivial rfl hra rfl (H++g1 v) (by simp) (Qgy (H1:=g1 v) _ 0 (by simp) fun j o hj=>by rw [Lv,ho];exact hj) (r2 v) (hr v) hq
theorem gcQ {ρ:Nat->Nat} {vs:List AV} {H:List AObj} {args:List AV} {H0 H1:List AObj} {r:AV} {H2:List AObj} {r2:AV} (a1:RenL ρ (fun _=>False) H vs args:=by repeat' first | exact rN | refine rE rfl ?_)
  (a2:Q7q ρ (fun _=>False) H 0 H0:=by repeat' first | exact hN | refine hO rfl ?_ | refine hD ?_ | refine hE rfl ?_ | refine hV lb ?_) (a3:Ql2 ρ 0 H0=true:=by rfl) (a4:refsLt.refsLts H0.length args=true:=by rfl)
  (a5:(H0.all (Yn H0.length))=true:=by repeat' first | exact roN | refine roE rfl ?_ | refine roE (Yw _ _ _) ?_) (a6:(Nat.beq H2.length (H.length+(H1.length - H0.length)))=true:=by rfl)
  (a7:Q8w ρ H H0 H1 0 H2:=by repeat' first | exact fN | refine fD ?_ | refine fK rfl rfl ?_ | refine fO 1 rfl rfl rfl ?_ | refine fO 2 rfl rfl rfl ?_ | refine fO 3 rfl rfl rfl ?_ | refine fR 0 rfl rfl rfl rfl ?_) (a8:Js (Qfw ρ H0.length H.length) r=r2:=by rfl):GcP ρ vs H args H0 H1 r H2 r2:=⟨a1,a2,a3,a4,a5,a6,a7,a8⟩
theorem dcO {x:Option α} {F : α->Option β} {r : β} {f:Nat} {a0 args:List AV} {H:List AObj} {gr : α->AV} {g1 : α->List AObj} (h:x.bind F=some r) (hp:∀ {v},x=some v->GC P Gl f a0 [] (gr v) (g1 v)) (A:List Nat) (r2 : α->AV) (hf:RenL (fun i=>i) (fun _=>False) H args a0)
  {k:AV->List AObj->List Nat->List Nat->Prop} (hq:∀ v,F v=some r->Qu7 H (g1 v) fun H2=>k (r2 v) H2 [] A) (hr:∀ v,Js (fun j=>H.length+j) (gr v)=r2 v:=by exact fun _=>rfl)
  (ho:∀ v s,(g1 v).map (Q2d s)=g1 v:=by intro v s;repeat' first | exact oN | refine oW ?_) (hra:refsLt.refsLts 0 a0=true:=by rfl) (hl:∀ v,Nat.ble 1 (g1 v).length=true:=by exact fun _=>rfl) (hA:∀ v,List.range' H.length (g1 v).length=A:=by exact fun _=>rfl):Qv P Gl f args H k:=by
 obtain ⟨v,h1,h2⟩:=Vd h;have hq:=hq v h2;rw [Qgv] at hq;exact Qee (hp h1) (hl v) hf hra A (hA v) (hr v) (by rw [ho]) hq
end
end
end Go.Av
