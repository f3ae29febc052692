/- Part of FromsnLearns: the law returns true; no condition. -/
import Derived.Test.YtgkmcegmobfknaaGreatDoorAvMeth
import Derived.Test.YtgkmcegmobfknaaGreatDoorAvLook
import Derived.Test.YtgkmcegmobfknaaGreatDoorAvDraws
import Derived.Test.YtgkmcegmobfknaaGreatDoorAvClosed4
import Derived.Test.YtgkmcegmobfknaaGreatDoorAvGc
import Derived.Test.YtgkmcegmobfknaaGreatDoorAvDrawt
set_option linter.all false
namespace Go.Av
noncomputable section
section
variable {P:Program} {Gl:Nat->Option (List PV)}
@[reducible] def clo (f a:Nat):AV := .func (.func f) [] [.ptr a 0]
def Z7v (P:Program) (Gl:Nat->Option (List PV)) (f:Nat) (args:List PV) (r:PV):Prop:=
 ∀ (H:List AObj) (a:Nat),H[a]? = some (.cells [clo f a])->∀ vs,FrzL (fun _=>False) H vs args ->
  Qd P Gl f (vs ++ [.ptr a 0]) H (fun v H'=>v = .p r∧H'=H)
end
end
end Go.Av
namespace Go.Av
noncomputable section
section
variable {P:Program} {Gl:Nat->Option (List PV)}
theorem Q6o {f:Nat} {args:List AV} {H:List AObj} {r:AV} {k:AV->List AObj->List Nat->List Nat->Prop} (hargs:refsLt.refsLts H.length args=true) (hr:refsLt H.length r=true)
  (hc:Qd P Gl f args (List.replicate H.length .dead) (fun v _=>v=r)) (hk:k r H [] []):Wb P Gl f args H k:=
 .inl ⟨[],[],r,fun s h=>(by cases h),fun H2 _=>Y9 (Qcx hargs hr hc H2) (fun _ _ ⟨e1,e2⟩=>⟨e1,e2⟩),hk⟩
end
end
end Go.Av
namespace Go.Av
noncomputable section
section
variable {P:Program} {Gl:Nat->Option (List PV)} {α β R:Type}
theorem iU {b:Bool} {x y:Option R} {r:R} {X Y:Prop} (h:cond b x y=some r) (h1:x=some r->X) (h2:y=some r->Y) : @Bool.rec (fun _=>Prop) Y X b:=ifO h (fun _=>h1) (fun _=>h2)
theorem kU {b:Bool} {x:Option R} {r:R} {X:Prop} (h:cond b x none=some r) (h1:x=some r->X) : @Bool.rec (fun _=>Prop) (EP P Gl).fail X b:=by
 obtain ⟨h2,h3⟩:=Q4i h;exact Q0n h2 (h1 h3)
section
variable {K:Nat->Prop} {H:List AObj} {a b c d e f:PV}
theorem p0:FrzL K H [] [] := .nil
theorem p1:FrzL K H [.p a] [a] := .cons (.p _) .nil
theorem p2:FrzL K H [.p a,.p b] [a,b] := .cons (.p _) p1
theorem p3:FrzL K H [.p a,.p b,.p c] [a,b,c] := .cons (.p _) p2
theorem p4:FrzL K H [.p a,.p b,.p c,.p d] [a,b,c,d] := .cons (.p _) p3
theorem p5:FrzL K H [.p a,.p b,.p c,.p d,.p e] [a,b,c,d,e] := .cons (.p _) p4
theorem q4:Frz K H (.agg [.p a,.p b,.p c,.p d]) (.agg [a,b,c,d]):=Ar p4
theorem q2:Frz K H (.agg [.p a,.p b]) (.agg [a,b]):=Ar p2
theorem u2:Frz K H (.tuple [.p a,.p b]) (.tuple [a,b]):=At p2
theorem u3:Frz K H (.tuple [.p a,.p b,.p c]) (.tuple [a,b,c]):=At p3
end
section
variable {x:Option α} {F : α->Option β} {r : β} {f:Nat} {pargs:List PV} {g : α->PV} {H:List AObj} {args:List AV}
theorem cP (h:x.bind F=some r) (hp:∀ {v},x=some v->Q7x P Gl f pargs (g v)) (hf:FrzL (fun _=>False) H args pargs) {Q:AV->List AObj->Prop} (hq:∀ v,F v=some r->Q (.p (g v)) H):Qd P Gl f args H Q:=by
 obtain ⟨v,h1,h2⟩:=Q2l h;exact Vg (hp h1) hf (hq v h2)
theorem cD (h:x.bind F=some r) (hp:∀ {v},x=some v->Q7x P Gl f pargs (g v)) (hf:FrzL (fun _=>False) H args pargs) {k:AV->List AObj->List Nat->List Nat->Prop} (hq:∀ v,F v=some r->k (.p (g v)) H [] []):Wb P Gl f args H k:=by
 obtain ⟨v,h1,h2⟩:=Q2l h;exact Qlr (hp h1) hf (hq v h2)
theorem cM {cells:List PV} {g2 : α->List PV} (h:x.bind F=some r) (hp:∀ {v},x=some v->Qn6 P Gl f cells pargs (g v) (g2 v)) {a:Nat} (ha:H[a]? = some (.cells (cells.map .p))) {vs:List AV} (hf:FrzL (fun _=>False) H vs pargs)
  {Q:AV->List AObj->Prop} (hq:∀ v,F v=some r->Q (.p (g v)) (H.set a (.cells ((g2 v).map .p)))):Qd P Gl f (.ptr a 0::vs) H Q:=by
 obtain ⟨v,h1,h2⟩:=Q2l h;exact Q7f (hp h1) ha hf (hq v h2)
theorem dM {cells:List PV} {g2 : α->List PV} (h:x.bind F=some r) (hp:∀ {v},x=some v->Qn6 P Gl f cells pargs (g v) (g2 v)) {a:Nat} (ha:H[a]? = some (.cells (cells.map .p))) {vs:List AV} (hf:FrzL (fun _=>False) H vs pargs)
  {k:AV->List AObj->List Nat->List Nat->Prop} (hq:∀ v,F v=some r->k (.p (g v)) (H.set a (.cells ((g2 v).map .p))) [a] [a]):Wb P Gl f (.ptr a 0::vs) H k:=by
 obtain ⟨v,h1,h2⟩:=Q2l h;exact Qll (hp h1) ha hf (hq v h2)
theorem cG {a0:List AV} {H0:List AObj} {gr : α->AV} {g1 : α->List AObj} (h:x.bind F=some r) (hp:∀ {v},x=some v->GC P Gl f a0 H0 (gr v) (g1 v)) {Q:AV->List AObj->Prop}
  (hq:∀ v,F v=some r->∃ ρ H2 r2,GcP ρ args H a0 H0 (g1 v) (gr v) H2 r2∧Q r2 H2):Qd P Gl f args H Q:=by
 obtain ⟨v,h1,h2⟩:=Q2l h;exact Qfk (hp h1) (hq v h2)
end
theorem xR {T:Type} {c:T->List PV} {l:List T} {i:Int} {F:T->Option β} {r : β} (h:(idx l i).bind F=some r) {k:List PV->Prop} (hq:∀ y,F y=some r->k (c y)):Qtg (EP P Gl) (Qi c l) i k:=by
 obtain ⟨y,h1,h2⟩:=Q2l h;exact Z3u (idx_rows h1) (hq y h2)
theorem xB {l:List UInt8} {i:Int} {F:UInt8->Option β} {r : β} (h:(idx l i).bind F=some r) {k:UInt8->Prop} (hq:∀ y,F y=some r->k y):Qtg (EP P Gl) l i k:=by
 obtain ⟨y,h1,h2⟩:=Q2l h;exact Z3u h1 (hq y h2)
section
variable {ρ:Nat->Nat} {K:Nat->Prop} {H:List AObj}
theorem rW {v1 v2:AV} {vs us:List AV} (h:RenL ρ K H vs us):RenL ρ K H (v1::v2::vs) (.any :: .any::us):=rA (rA h)
theorem rV {v1 v2 v3 v4:AV} {vs us:List AV} (h:RenL ρ K H vs us):RenL ρ K H (v1::v2::v3::v4::vs) (.any :: .any :: .any :: .any::us):=rW (rW h)
theorem rX {v1 v2 v3 v4 v5 v6 v7 v8:AV} {vs us:List AV} (h:RenL ρ K H vs us):RenL ρ K H (v1::v2::v3::v4::v5::v6::v7::v8::vs) (.any :: .any :: .any :: .any :: .any :: .any :: .any :: .any::us):=rV (rV h)
theorem hJ {i:Nat} {o:AObj} {r:List AObj} (e:H[ρ i]? = some (Q4c ρ o)) (h:Q8t ρ K H (i+1) r):Q8t ρ K H i (o::r):=hE e h
end
theorem Qoq {T:Type} {c:T->List PV} {vs:List T} {rows:List (List PV)} (e:rows=Qi c vs) {k:List AV->Prop} (h:k (Yl c vs)) :
  @List.rec PV (fun _=>Up hi9 ((List AV->Prop)->Prop)) (fun k=>k []) (fun v _ ih k=>ih fun r=>k (AV.p v::r)) rows.flatten k:=by
 show Q69 AV.p rows.flatten k;rw [Wt,e,← Q52];exact h
abbrev iI (n:Int):AV := .p (.int .i64 n)
abbrev iW (n:Int):AV := .p (.int .u64 n)
abbrev iS (s:List UInt8):AV := .p (.str s)
abbrev a2 (l:List AV):List AV := .any :: .any::l
abbrev a4 (l:List AV):List AV := .any :: .any :: .any :: .any::l
abbrev a8 (l:List AV):List AV := .any :: .any :: .any :: .any :: .any :: .any :: .any :: .any::l
abbrev a16 (l:List AV):List AV:=a8 (a8 l)
abbrev lb {a b:Nat} (h:Nat.ble a b=true:=by rfl):a≤b:=Lw h
theorem lpC {τ:Type} (T : τ->List AV) (Hs : τ->List AObj) (L:Nat->τ->Option R) {r:R} {N:Nat} {b:CC} {tm:List AV} {H:List AObj} {Q:CExit->List AV->List AObj->Prop} (s0 : τ) (h:L N s0=some r) (ρ:Nat->Nat) (hw:Ren ρ H.length tm H (T s0) (Hs s0))
  (step:∀ n s,L (n+1) s=some r->ev (EP P Gl) b (T s) (Hs s) (Qk7 H.length (fun s:Nat × τ=>T s.2) (fun s=>Hs s.2) (fun s=>L s.1 s.2=some r) (fun s=>s.1) (n+1,s) Q)) (h0:∀ s,L 0 s=none:=by exact fun _=>rfl) (hl:∀ s,Nat.ble H.length (Hs s).length=true:=by exact fun _=>rfl):Q4s P Gl b tm H Q:=by
 refine Qje (σ:=Nat × τ) (fun s=>T s.2) (fun s=>Hs s.2) (fun s=>L s.1 s.2=some r) (fun s=>s.1) (N,s0) h ⟨ρ,hw⟩ (fun s _=>Lw (hl s.2)) ?_
 rintro ⟨n,s⟩ h
 cases n with
 | zero=>rw [h0 s] at h;cases h
 | succ n=>exact step n s h
section
variable {b:Bool} {x y:Option R} {r:R} {X Y:Prop}
theorem iL (h:cond b x y=some r) (h2:y=some r->Y) (h1:x=some r->X:=by intro h;cases h;exact .p _) : @Bool.rec (fun _=>Prop) Y X b:=iU h h1 h2
theorem iR (h:cond b x y=some r) (h1:x=some r->X) (h2:y=some r->Y:=by intro h;cases h;exact .p _) : @Bool.rec (fun _=>Prop) Y X b:=iU h h1 h2
theorem iB (h:cond b x y=some r) (h1:x=some r->X:=by intro h;cases h;exact .p _) (h2:y=some r->Y:=by intro h;cases h;exact .p _) : @Bool.rec (fun _=>Prop) Y X b:=iU h h1 h2
theorem iL2 (h:cond b x y=some r) (h2:y=some r->Y) (h1:x=some r->X:=by intro h;obtain rfl:=Qb h;exact u2) : @Bool.rec (fun _=>Prop) Y X b:=iU h h1 h2
theorem iR2 (h:cond b x y=some r) (h1:x=some r->X) (h2:y=some r->Y:=by intro h;obtain rfl:=Qb h;exact u2) : @Bool.rec (fun _=>Prop) Y X b:=iU h h1 h2
theorem iB2 (h:cond b x y=some r) (h1:x=some r->X:=by intro h;obtain rfl:=Qb h;exact u2) (h2:y=some r->Y:=by intro h;obtain rfl:=Qb h;exact u2) : @Bool.rec (fun _=>Prop) Y X b:=iU h h1 h2
theorem dT (h:X) (hb:b=true:=by exact cF (by decide)) : @Bool.rec (fun _=>Prop) Y X b:=ifT hb h
theorem dF (h:Y) (hb:b=false:=by exact cF (by decide)) : @Bool.rec (fun _=>Prop) Y X b:=ifF hb h
end
theorem sd {n m:Nat} (h:n=m:=by first | (simp;done) | (simp [Qi];done)):n=m:=h
theorem Y7 {ρ:Nat->Nat} {n:Nat} {tm tm':List AV} {H H':List AObj} (h1:RenL ρ (KD ρ H') H tm tm':=by repeat' first | exact rN | refine rA ?_ | refine rE rfl ?_ | refine rS ?_ | refine rL (by first | (simp;done) | (simp [Qi];done) | (simp<;>omega)) rfl ?_ | refine rG (by repeat' first | exact rN | refine rE rfl ?_ | refine rA ?_ | refine rS ?_ | refine rL (by first | (simp;done) | (simp [Qi];done) | (simp<;>omega)) rfl ?_) ?_ | refine rP (by repeat' first | exact rN | refine rE rfl ?_ | refine rA ?_ | refine rS ?_ | refine rL (by first | (simp;done) | (simp [Qi];done) | (simp<;>omega)) rfl ?_) ?_ | refine rT (by repeat' first | refine rG (by repeat' first | exact rN | refine rE rfl ?_ | refine rA ?_ | refine rS ?_ | refine rL (by first | (simp;done) | (simp [Qi];done) | (simp<;>omega)) rfl ?_) ?_ | refine rP (by repeat' first | exact rN | refine rE rfl ?_ | refine rA ?_ | refine rS ?_ | refine rL (by first | (simp;done) | (simp [Qi];done) | (simp<;>omega)) rfl ?_) ?_ | exact rN | refine rE rfl ?_ | refine rA ?_ | refine rS ?_ | refine rL (by first | (simp;done) | (simp [Qi];done) | (simp<;>omega)) rfl ?_) ?_) (h2:Q8t ρ (KD ρ H') H 0 H':=by repeat' first | exact hN | refine hO rfl ?_ | refine hD ?_ | refine hE rfl ?_ | refine hV lb ?_ | refine hC rfl (by repeat' first | exact rN | refine rE rfl ?_ | refine rA ?_ | refine rS ?_ | refine rL (by first | (simp;done) | (simp [Qi];done) | (simp<;>omega)) rfl ?_) ?_)
  (h3:Qow ρ n H'=true:=by rfl) (h4:refsLt.refsLts H'.length tm'=true:=by rfl) (h5:(H'.all (V3 H'.length))=true:=by repeat' first | exact roN | refine roE rfl ?_ | refine roE (Vk _ _ _) ?_):Ren ρ n tm H tm' H':=⟨h1,h2,h3,h4,h5⟩
mutual
theorem Qey:∀ v:AV,Q15 (fun i=>i) v=v
 | .ptr _ _=>rfl
 | .slice _ _ _ _=>rfl
 | .map _=>rfl
 | .agg cs=>by simp only [Q15,Q5g cs]
 | .tuple cs=>by simp only [Q15,Q5g cs]
 | .func _ a b=>by simp only [Q15,Q5g a,Q5g b]
 | .iface _ v=>by simp only [Q15,Qey v]
 | .p _=>rfl
 | .gptr _ _=>rfl
 | .rptr _=>rfl
 | .any=>rfl
theorem Q5g:∀ l:List AV,Q8d (fun i=>i) l=l
 | []=>rfl
 | v::l=>by simp only [Q8d,Qey v,Q5g l]
end
theorem Qe7 (o:AObj):Q4c (fun i=>i) o=o:=by
 cases o with
 | cells cs=>simp only [Q4c,Q5g]
 | map es=>simp only [Q4c,Qey];congr 1;exact Eh _
 | strIter s p=>rfl
 | dead=>rfl
 | ext R a=>rfl
theorem Qj9 {K:Nat->Prop} {H:List AObj}:∀ (i:Nat) (r:List AObj),(∀ j o,r[j]? = some o->H[i+j]? = some o)->Q8t (fun i=>i) K H i r
 | _,[],_=>trivial
 | i,o::r,h=>by
  have t:Q8t (fun i=>i) K H (i+1) r:=Qj9 (i+1) r fun j o' hj=>by have:=h (j+1) o' (by simpa using hj);rwa [show i+(j+1)=i+1+j by omega] at this
  have e:H[i]? = some o:=by have:=h 0 o rfl;simpa using this
  cases o with
  | dead=>exact t
  | cells cs=>exact hE (by rw [Qe7];exact e) t
  | map es=>exact hE (by rw [Qe7];exact e) t
  | strIter s p=>exact hE (by rw [Qe7];exact e) t
  | ext R a=>exact hE (by rw [Qe7];exact e) t
theorem Qpe (n:Nat) (H:List AObj):Qow (fun i=>i) n H=true:=by
 simp only [Qow,Lq,Lc];intro i _;refine ⟨by simp,fun j _=>?_⟩
 by_cases h:i=j
 ·simp [h]
 simp [h]
theorem Z0m {n:Nat} {tm tm':List AV} {H:List AObj} (h1:RenL (fun i=>i) (KD (fun i=>i) H) H tm tm') (h4:refsLt.refsLts H.length tm'=true) (h5:(H.all (V3 H.length))=true):Ren (fun i=>i) n tm H tm' H:=
 ⟨h1,Qj9 0 H (fun j o h=>by rw [Me];exact h),Qpe n H,h4,h5⟩
theorem lpH {τ:Type} (T : τ->List AV) (L:Nat->τ->Option R) {r:R} {N:Nat} {b:CC} {tm:List AV} {H:List AObj} {Q:CExit->List AV->List AObj->Prop} (s0 : τ) (h:L N s0=some r)
  (step:∀ n s,L (n+1) s=some r->ev (EP P Gl) b (T s) H (Qk7 H.length (fun s:Nat × τ=>T s.2) (fun _=>H) (fun s=>L s.1 s.2=some r) (fun s=>s.1) (n+1,s) Q))
  (h1:RenL (fun i=>i) (KD (fun i=>i) H) H tm (T s0):=by repeat' first | exact rN | refine rA ?_ | refine rE rfl ?_) (h4:refsLt.refsLts H.length (T s0)=true:=by rfl) (h5:(H.all (V3 H.length))=true:=by repeat' first | exact roN | refine roE rfl ?_ | refine roE (Vk _ _ _) ?_)
  (h0:∀ s,L 0 s=none:=by exact fun _=>rfl):Q4s P Gl b tm H Q:=by
 refine Qje (σ:=Nat × τ) (fun s=>T s.2) (fun _=>H) (fun s=>L s.1 s.2=some r) (fun s=>s.1) (N,s0) h ⟨_,Z0m h1 h4 h5⟩ (fun _ _=>Li _) ?_
 rintro ⟨n,s⟩ h
 cases n with
 | zero=>rw [h0 s] at h;cases h
 | succ n=>exact step n s h
theorem lpA {τ:Type} (T : τ->List AV) (Hs : τ->List AObj) (L:Nat->τ->Option R) {r:R} {N:Nat} {b:CC} {tm:List AV} {H:List AObj} {Q:CExit->List AV->List AObj->Prop} (s0 : τ) (h:L N s0=some r)
  (step:∀ n s,L (n+1) s=some r->ev (EP P Gl) b (T s) (Hs s) (Qk7 H.length (fun s:Nat × τ=>T s.2) (fun s=>Hs s.2) (fun s=>L s.1 s.2=some r) (fun s=>s.1) (n+1,s) Q)) (hw:Ren (fun i=>i) H.length tm H (T s0) (Hs s0):=by exact Y7) (h0:∀ s,L 0 s=none:=by exact fun _=>rfl) (hl:∀ s,Nat.ble H.length (Hs s).length=true:=by exact fun _=>rfl):Q4s P Gl b tm H Q:=lpC T Hs L s0 h _ hw step h0 hl
theorem jrH {σ:Type} {r:R} (T : σ->List AV) (J : σ->Option R) {a b:CC} {tm:List AV} {H:List AObj} {Q:CExit->List AV->List AObj->Prop}
  (h1:ev (EP P Gl) a tm H (Qw6 H.length T (fun _=>H) (fun s=>J s=some r) Q)) (h2:∀ s,J s=some r->ev (EP P Gl) b (T s) H Q):Z0j P Gl a b tm H Q:=Q4m T (fun _=>H) _ (fun _ _=>Li _) h1 h2
theorem jrA {σ:Type} {r:R} (T : σ->List AV) (Hs : σ->List AObj) (J : σ->Option R) {a b:CC} {tm:List AV} {H:List AObj} {Q:CExit->List AV->List AObj->Prop}
  (h1:ev (EP P Gl) a tm H (Qw6 H.length T Hs (fun s=>J s=some r) Q)) (h2:∀ s,J s=some r->ev (EP P Gl) b (T s) (Hs s) Q) (hl:∀ s,Nat.ble H.length (Hs s).length=true:=by exact fun _=>rfl):Z0j P Gl a b tm H Q:=Q4m T Hs _ (fun s _=>Lw (hl s)) h1 h2
end
section
variable {P:Program} {Gl:Nat->Option (List PV)} {α β R:Type}
noncomputable def Z4e (H l:List AObj) (k:List AObj->Prop):Prop := @List.rec AObj (fun _=>(List AObj->Prop)->Prop) (fun k=>k l) (fun o _ ih k=>ih fun r=>k (o::r)) H k
theorem Qq8:∀ (H l:List AObj) (k:List AObj->Prop),Z4e H l k=k (H++l)
 | [],l,k=>rfl
 | o::H,l,k=>Qq8 H l fun r=>k (o::r)
theorem Ql2 {f:Nat->Nat} {H H1:List AObj}:∀ (r:List AObj) (i:Nat),i+r.length=H.length+H1.length->(∀ j o,r[j]? = some o->(H++H1.map (Q4c (Qhu f 0 H.length)))[i+j]? = some o)->Qa3 f H [] H1 i r
 | [],_,_,_=>trivial
 | o::r,i,hl,h=>by
  rw [Ma] at hl
  have t:Qa3 f H [] H1 (i+1) r:=Ql2 r (i+1) (by omega) fun j o' hj=>by have:=h (j+1) o' (by simpa using hj);rwa [show i+(j+1)=i+1+j by omega] at this
  have e:=h 0 o rfl;rw [Nn] at e;refine fX ?_ t
  by_cases hi:i<H.length
  ·rw [Lk hi] at e;exact .inl ⟨rfl,e⟩
  rw [Lo (by omega),Lm] at e
  cases hq:H1[i - H.length]? with
  | none=>rw [hq] at e;cases e
  | some o1=>
   rw [hq] at e;exact .inr ⟨i - H.length,o1,hq,by simp only [Qhu];rw [Ae (by simp)];simp;omega,fun h=>by simp at h,(Am e).symm⟩
theorem cO {x:Option α} {F : α->Option β} {r : β} {f:Nat} {a0 args:List AV} {H:List AObj} {gr : α->AV} {g1 : α->List AObj} (h:x.bind F=some r) (hp:∀ {v},x=some v->GC P Gl f a0 [] (gr v) (g1 v)) (r2 : α->AV) (hf:RenL (fun i=>i) (fun _=>False) H args a0)
  {Q:AV->List AObj->Prop} (hq:∀ v,F v=some r->Z4e H (g1 v) fun H2=>Q (r2 v) H2) (hr:∀ v,Q15 (Qhu (fun i=>i) 0 H.length) (gr v)=r2 v:=by exact fun _=>rfl)
  (ho:∀ v s,(g1 v).map (Q4c s)=g1 v:=by intro v s;repeat' first | exact oN | refine oW ?_) (hra:refsLt.refsLts 0 a0=true:=by rfl):Qd P Gl f args H Q:=by
 obtain ⟨v,h1,h2⟩:=Q2l h;have hq:=hq v h2;rw [Qq8] at hq;refine Qi4 (hp h1) (fun i=>i) hf trivial rfl hra rfl (H++g1 v) (by simp) (Ql2 (H1:=g1 v) _ 0 (by simp) fun j o hj=>by rw [Me,ho];exact hj) (r2 v) (hr v) hq
theorem gcQ {ρ:Nat->Nat} {vs:List AV} {H:List AObj} {args:List AV} {H0 H1:List AObj} {r:AV} {H2:List AObj} {r2:AV} (a1:RenL ρ (fun _=>False) H vs args:=by repeat' first | exact rN | refine rE rfl ?_)
  (a2:Q8t ρ (fun _=>False) H 0 H0:=by repeat' first | exact hN | refine hO rfl ?_ | refine hD ?_ | refine hE rfl ?_ | refine hV lb ?_) (a3:Qow ρ 0 H0=true:=by rfl) (a4:refsLt.refsLts H0.length args=true:=by rfl)
  (a5:(H0.all (V3 H0.length))=true:=by repeat' first | exact roN | refine roE rfl ?_ | refine roE (Vk _ _ _) ?_) (a6:(Nat.beq H2.length (H.length+(H1.length - H0.length)))=true:=by rfl)
  (a7:Qa3 ρ H H0 H1 0 H2:=by repeat' first | exact fN | refine fD ?_ | refine fK rfl rfl ?_ | refine fO 1 rfl rfl rfl ?_ | refine fO 2 rfl rfl rfl ?_ | refine fO 3 rfl rfl rfl ?_ | refine fR 0 rfl rfl rfl rfl ?_) (a8:Q15 (Qhu ρ H0.length H.length) r=r2:=by rfl):GcP ρ vs H args H0 H1 r H2 r2:=⟨a1,a2,a3,a4,a5,a6,a7,a8⟩
end
end
end Go.Av
