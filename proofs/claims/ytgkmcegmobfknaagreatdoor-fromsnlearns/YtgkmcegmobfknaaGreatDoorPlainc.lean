/- Part of FromsnLearns: the law returns true; no condition. -/
import Derived.Test.YtgkmcegmobfknaaGreatDoorTpClearA
import Derived.Test.YtgkmcegmobfknaaGreatDoorAvOwn
import Derived.Test.YtgkmcegmobfknaaGreatDoorRound
import Derived.Test.YtgkmcegmobfknaaGreatDoorLiftF3
import Derived.Test.YtgkmcegmobfknaaGreatDoorOks
set_option linter.all false
open Go.IntKind (wrap)
namespace Go.Av
noncomputable section
open Tp
theorem Q0y (x:Int):∀ (l:List RTp) (n:Nat),(Js x n l=none∧x ∉ l.map (·.1))∨∃ i v,Js x n l=some (i,v)∧n≤i∧l[i - n]? = some (x,v)
 | [],n => .inl ⟨rfl,by simp⟩
 | (k,v)::l,n=>by
  simp only [Js]
  by_cases h:x=k
  ·subst h;rw [Af rfl];exact .inr ⟨n,v,rfl,Li _,by simp⟩
  rw [Ae h]
  rcases Q0y x l (n+1) with ⟨h1,h2⟩ | ⟨i,w,h1,h2,h3⟩
  ·exact .inl ⟨h1,by simp only [Ng,Lx,not_or];exact ⟨h,h2⟩⟩
  refine .inr ⟨i,w,h1,by omega,?_⟩;rw [show i - n=(i - (n+1))+1 by omega];exact h3
theorem Q1t (x:List UInt8):∀ (l:List (List UInt8×Int)) (n:Nat),(Gk x n l=none∧x ∉ l.map (·.1))∨∃ i v,Gk x n l=some (i,v)∧n≤i∧l[i - n]? = some (x,v)
 | [],n => .inl ⟨rfl,by simp⟩
 | (k,v)::l,n=>by
  simp only [Gk]
  by_cases h:x=k
  ·subst h;rw [Af rfl];exact .inr ⟨n,v,rfl,Li _,by simp⟩
  rw [Ae h]
  rcases Q1t x l (n+1) with ⟨h1,h2⟩ | ⟨i,w,h1,h2,h3⟩
  ·exact .inl ⟨h1,by simp only [Ng,Lx,not_or];exact ⟨h,h2⟩⟩
  refine .inr ⟨i,w,h1,by omega,?_⟩;rw [show i - n=(i - (n+1))+1 by omega];exact h3
theorem Q57 (x:List UInt8):∀ (l:Reg) (n:Nat),(Yx x n l=none∧x ∉ l.map (·.1))∨∃ i v,Yx x n l=some (i,v)∧n≤i∧l[i - n]? = some (x,v)
 | [],n => .inl ⟨rfl,by simp⟩
 | (k,v)::l,n=>by
  simp only [Yx]
  by_cases h:x=k
  ·subst h;rw [Af rfl];exact .inr ⟨n,v,rfl,Li _,by simp⟩
  rw [Ae h]
  rcases Q57 x l (n+1) with ⟨h1,h2⟩ | ⟨i,w,h1,h2,h3⟩
  ·exact .inl ⟨h1,by simp only [Ng,Lx,not_or];exact ⟨h,h2⟩⟩
  refine .inr ⟨i,w,h1,by omega,?_⟩;rw [show i - n=(i - (n+1))+1 by omega];exact h3
structure CI (m:Nat) (C:RCl):Prop where
 ids:C.ids=C.all.map fun q=>(q.2.1,q.1)
 nd:(C.all.map (·.1)).Nodup
 nn:(C.all.map (·.2.1)).Nodup
 rng:∀ q∈C.all,1≤q.1∧q.1≤65534
 low:∀ k:Int,1≤k->k<C.next->k∈C.all.map (·.1)
 wc:WC C
 len:C.all.length≤m
theorem CI.mono {m m':Nat} (h:m≤m') {C:RCl} (c:CI m C):CI m' C:=⟨c.ids,c.nd,c.nn,c.rng,c.low,c.wc,Mq c.len h⟩
theorem Qrl {C:RCl} {m:Nat} (h:CI m C) (n:List UInt8):n ∉ C.ids.map (·.1)↔n ∉ C.all.map (·.2.1):=by
 rw [h.ids,Nj];exact Iff.rfl
theorem CI.add {m:Nat} {C:RCl} (h:CI m C) {n:List UInt8} {id nx:Int} {b:Bool} (hn:n ∉ C.ids.map (·.1)) (hid:id ∉ C.all.map (·.1)) (hr:1≤id∧id≤65534) (hnx:1≤nx∧nx≤65535) (hl:∀ k:Int,1≤k->k<nx->k=id∨k∈C.all.map (·.1)) :
  CI (m+1) ⟨C.ids ++ [(n,id)],C.all ++ [(id,n,b)],C.back,nx⟩:=by
 refine ⟨by simp [h.ids],?_,?_,?_,?_,⟨h.wc.1,hnx⟩,by have:=h.len;simp;omega⟩
 ·simp only [Bd,Cq];exact ⟨h.nd,by simp,fun a ha c hc=>by simp at hc;subst hc;exact fun e=>hid (e▸ha)⟩
 ·simp only [Bd,Cq];exact ⟨h.nn,by simp,fun a ha c hc=>by simp at hc;subst hc;exact fun e=>(Qrl h _).1 hn (e▸ha)⟩
 ·intro q hq
  rcases Mh.1 hq with h1 | h1
  ·exact h.rng q h1
  simp at h1;subst h1;exact hr
 intro k h1 h2;rw [Bd,Mh]
 rcases hl k h1 h2 with e | e
 ·exact .inr (by simp [e])
 exact .inl e
theorem Q6e (all:List RTp):∀ (N:Nat) (s id nx:Int),Q2b all N s=some (id,nx)->id≠0->s≤id∧id≤65534∧nx=id+1∧id ∉ all.map (·.1)∧∀ k,s≤k->k<id->k∈all.map (·.1)
 | 0,s,id,nx,h,_=>by cases h
 | N+1,s,id,nx,h,h0=>by
  simp only [Q2b] at h;split at h
  ·split at h
   ·rename_i h1 h2
    rcases Q0y s all 0 with ⟨e,hm⟩ | ⟨i,v,e,_,hv⟩
    ·rw [e] at h;cases h;exact ⟨Cu _,h2,rfl,hm,fun k a b=>by omega⟩
    rw [e] at h;obtain ⟨g1,g2,g3,g4,g5⟩:=Q6e all N (s+1) id nx h h0;refine ⟨by omega,g2,g3,g4,fun k a b=>?_⟩
    by_cases hk:k=s
    ·subst hk;exact Ml.2 ⟨_,Mk hv,rfl⟩
    exact g5 k (by omega) b
   cases h;exact absurd rfl h0
  cases h
theorem Q6f (all:List RTp):∀ (N:Nat) (s nx:Int),1≤s->s≤65535->Q2b all N s=some (0,nx)->(65534<nx∧nx≤65535)∧s≤nx∧∀ k,s≤k->k<nx->k∈all.map (·.1)
 | 0,s,nx,_,_,h=>by cases h
 | N+1,s,nx,h1,h3,h=>by
  simp only [Q2b,Af h1] at h;split at h
  ·rcases Q0y s all 0 with ⟨e,hm⟩ | ⟨i,v,e,_,hv⟩
   ·rw [e] at h;simp at h;omega
   rw [e] at h;obtain ⟨g1,g0,g2⟩:=Q6f all N (s+1) nx (by omega) (by omega) h;refine ⟨g1,by omega,fun k a b=>?_⟩
   by_cases hk:k=s
   ·subst hk;exact Ml.2 ⟨_,Mk hv,rfl⟩
   exact g2 k (by omega) b
  cases h;exact ⟨⟨by omega,h3⟩,Cu _,fun k a b=>by omega⟩
theorem Qu2 {m:Nat} {C:Option RCl} (h:∀ D,C=some D->CI m D) (n:List UInt8):CI (m+1) (Qdu C n).2:=by
 cases C with
 | none=>
  refine ⟨rfl,by simp [Qdu],by simp [Qdu],fun q hq=>by simp [Qdu] at hq;subst hq;exact ⟨Cu 1,show (1:Int)≤65534 by decide⟩,fun k h1 h2=>?_,⟨rfl,by simp [Qdu],by simp [Qdu]⟩,by simp [Qdu]⟩;simp only [Qdu] at h2 ⊢
  have:k=1:=by omega
  simp [this]
 | some C=>
  have hc:=h C rfl;unfold Qdu;simp only []
  rcases Q1t n C.ids 0 with ⟨e,hn⟩ | ⟨i,v,e,_,hv⟩
  ·rw [e]
   obtain ⟨id,nx,hl,h4,h5,_⟩:=Q2z C.all 65536 C.next hc.wc.2.1 hc.wc.2.2 (by have:=hc.wc.2.1;omega)
   simp only [hl];split
   ·rename_i h0;subst h0;obtain ⟨g1,g0,g2⟩:=Q6f C.all _ _ _ hc.wc.2.1 hc.wc.2.2 hl
    exact ⟨hc.ids,hc.nd,hc.nn,hc.rng,fun k a b=>by
     by_cases hk:k<C.next
     ·exact hc.low k a hk
     exact g2 k (by omega) b,⟨rfl,h4,h5⟩,Nd hc.len⟩
   rename_i h0;obtain ⟨g1,g2,g3,g4,g5⟩:=Q6e C.all _ _ _ _ hl h0
   have:=hc.add (b:=false) hn g4 ⟨by have:=hc.wc.2.1;omega,g2⟩ (nx:=nx) ⟨h4,h5⟩ (fun k a b=>by
    by_cases hk:k=id
    ·exact .inl hk
    by_cases hk2:k<C.next
    ·exact .inr (hc.low k a hk2)
    exact .inr (g5 k (by omega) (by omega)))
   rw [hc.wc.1] at this;exact this
  rw [e];exact hc.mono (Bg _)
theorem Qzr {m:Nat} {C:Option RCl} (h:∀ D,C=some D->CI m D) (n:List UInt8) {id:Int} (hi:1≤id∧id≤65534):CI (m+1) (Qft C n id).2:=by
 cases C with
 | none=>
  refine ⟨rfl,by simp [Qft],by simp [Qft],fun q hq=>by simp [Qft] at hq;subst hq;exact hi,fun k h1 h2=>?_,⟨rfl,by simp [Qft],by simp [Qft]⟩,by simp [Qft]⟩;simp only [Qft] at h2;omega
 | some C=>
  have hc:=h C rfl;unfold Qft;simp only []
  rcases Q0y id C.all 0 with ⟨e,hid⟩ | ⟨i,v,e,_,hv⟩
  ·rw [e];simp only []
   rcases Q1t n C.ids 0 with ⟨e2,hn⟩ | ⟨i,v,e2,_,hv⟩
   ·rw [e2];exact hc.add hn hid hi ⟨hc.wc.2.1,hc.wc.2.2⟩ fun k a b => .inr (hc.low k a b)
   rw [e2];exact hc.mono (Bg _)
  rw [e];simp only []
  split<;>exact hc.mono (Bg _)
structure RI (m:Nat) (R:Reg):Prop where
 keys:(R.map (·.1)).Nodup
 cl:∀ q∈R,CI m q.2
theorem RI.get {m:Nat} {R:Reg} (h:RI m R) {c:List UInt8} {C:RCl} (hc:Q5u R c=some C):CI m C:=by
 unfold Q5u at hc
 cases hf:Yx c 0 R with
 | none=>rw [hf] at hc;cases hc
 | some x=>
  rw [hf] at hc;obtain ⟨i,D⟩:=x;cases hc;exact h.cl _ (Qbf hf)
theorem Qtj (R:Reg) (i:Nat) (c:List UInt8) (C D:RCl) (h:R[i]? = some (c,D)):(R.set i (c,C)).map (·.1)=R.map (·.1):=by
 apply Mm;intro j;simp only [Lm,Nu]
 by_cases hj:i=j
 ·subst hj;rw [Af rfl,h];have:=(La.1 h).1;simp [this]
 rw [Ae hj]
theorem RI.set {m:Nat} {R:Reg} (h:RI m R) (c:List UInt8) {C:RCl} (hc:CI m C):RI m (Qpz R c C):=by
 unfold Qpz
 rcases Q57 c R 0 with ⟨e,hn⟩ | ⟨i,v,e,_,hv⟩
 ·rw [e];refine ⟨?_,fun q hq=>?_⟩
  ·simp only [Bd,Cq];exact ⟨h.keys,by simp,fun a ha b hb=>by simp at hb;subst hb;exact fun x=>hn (x▸ha)⟩
  rcases Mh.1 hq with h1 | h1
  ·exact h.cl q h1
  simp at h1;subst h1;exact hc
 rw [e];refine ⟨?_,fun q hq=>?_⟩
 ·simp only [];rw [Qtj R i c C v (by simpa using hv)];exact h.keys
 rcases Bk hq with h1 | h1
 ·exact h.cl q h1
 subst h1;exact hc
theorem RI.mono {m m':Nat} (h:m≤m') {R:Reg} (r:RI m R):RI m' R:=⟨r.keys,fun q hq=>(r.cl q hq).mono h⟩
theorem RI.step {m:Nat} (ok:List UInt8->Bool) {R:Reg} (h:RI m R) (t:List UInt8×List UInt8×Int):RI (m+1) (Qcc ok R t):=by
 unfold Qcc;split
 ·unfold Qe8;split
  ·exact (h.mono (Bg m)).set _ (Qu2 (fun D hD=>h.get hD) _)
  exact h.mono (Bg m)
 unfold Qr1;split
 ·split
  ·rename_i hi;exact (h.mono (Bg m)).set _ (Qzr (fun D hD=>h.get hD) _ hi)
  exact h.mono (Bg m)
 exact h.mono (Bg m)
theorem Qjx (ok:List UInt8->Bool):∀ (l:List (List UInt8×List UInt8×Int)) (m:Nat) (R:Reg),RI m R->RI (m+l.length) (l.foldl (Qcc ok) R)
 | [],m,_,h=>h
 | t::l,m,R,h=>by
  have:=Qjx ok l (m+1) _ (h.step ok t);rw [Ma,show m+(l.length+1)=m+1+l.length by omega];exact this
theorem Qxc (ok:List UInt8->Bool) (l:List (List UInt8×List UInt8×Int)):RI l.length (Qi1 ok l):=by
 have:=Qjx ok l 0 [] ⟨by simp,fun q h=>by cases h⟩
 rwa [Me] at this
theorem Q5r (R:Reg) (c:List UInt8):Q8n R c=match Q5u R c with | none => [] | some C=>C.all:=by
 unfold Q8n Q5u
 cases Yx c 0 R with
 | none=>rfl
 | some q=>rfl
theorem RI.okAll {m:Nat} {R:Reg} (h:RI m R) (hm:m≤1000000000) (c:List UInt8):okAll R c=true:=by
 unfold Tp.okAll;rw [Q5r]
 cases hc:Q5u R c with
 | none=>exact Ad ⟨by simp,by simp⟩
 | some C=>exact Ad ⟨Mq (h.get hc).len hm,(h.get hc).nd⟩
theorem Qox:∀ (k:Nat) (l:List Int) (j:Nat),j<l.length->j+1<2 ^ k->j<4611686018427387904->∃ l',hUp k (l,j)=some l'∧l'.length=l.length
 | 0,l,j,_,h,_=>by simp at h
 | k+1,l,j,h1,h2,h3=>by
  simp only [hUp,Af h3];split
  ·exact ⟨l,rfl,rfl⟩
  have hj:(j - 1) / 2<l.length:=by omega
  rw [Lb hj,Lb h1];simp only [];split
  ·have hp:2 ^ (k+1)=2 ^ k * 2:=Nat.pow_succ 2 k;obtain ⟨l',e1,e2⟩:=Qox k ((l.set ((j - 1) / 2) l[j]).set j l[(j - 1) / 2]) ((j - 1) / 2) (by simp;omega) (by omega) (by omega);exact ⟨l',e1,by rw [e2];simp⟩
  exact ⟨l,rfl,rfl⟩
theorem Qnv (l:List Int) (x:Int) (h:l.length≤1000000000):∃ l',Qmc l x=some l'∧l'.length=l.length+1:=by
 unfold Qmc;rw [Af h];obtain ⟨l',e1,e2⟩:=Qox 64 (l ++ [x]) l.length (by simp) (by omega) (by omega);exact ⟨l',e1,by rw [e2];simp⟩
theorem Qkt (x:Int) (l:List RTp):(Qmq x l).Sublist l:=by
 unfold Qmq;split
 ·exact List.eraseIdx_sublist ..
 exact List.Sublist.refl _
theorem Qrd {x:Int} {l:List RTp} (h:(l.map (·.1)).Nodup):x ∉ (Qmq x l).map (·.1):=by
 unfold Qmq
 rcases Q0y x l 0 with ⟨e,hn⟩ | ⟨i,v,e,_,hv⟩
 ·rw [e];exact hn
 rw [e];simp only [];rw [Qgy];rw [No] at hv;intro hm;rw [Dg] at hm;obtain ⟨j,hj,hne,he⟩:=hm
 have hi:i<(l.map (·.1)).length:=by rw [Lp];exact (La.1 hv).1
 have hx:(l.map (·.1))[i]=x:=by rw [List.getElem_map];rw [(La.1 hv).2]
 exact hne ((Ee h).1 (he.trans hx.symm))
theorem Qa8 (T:List RTp) (C:RCl) (hC:(C.all.map (·.1)).Nodup):∀ (k j:Nat) (D:RCl) (n:Nat),T.length+1≤k+j->j≤T.length->n≤j->D.back.length≤C.back.length+j->C.back.length+T.length≤1000000000->D.all.Sublist C.all ->
  (∀ i t,i<j->T[i]? = some t->t.2.2=false->t.1 ∉ D.all.map (·.1)) ->
  ∃ C' n',Qrk T k (j,D,n)=some (C',n')∧C'.all.Sublist C.all∧∀ t∈T,t.2.2=false->t.1 ∉ C'.all.map (·.1)
 | 0,j,D,n,h1,h2,_,_,_,_,_=>by omega
 | k+1,j,D,n,h1,h2,h3,h4,h5,h6,h7=>by
  simp only [Qrk];rw [Ae (by omega)]
  by_cases hj:j<T.length
  ·rw [Lb hj];simp only []
   cases hb:T[j].2.2 with
   | true=>
    simp only [];refine Qa8 T C hC k (j+1) D n (by omega) hj (by omega) (by omega) h5 h6 fun i t hi ht hf=>?_
    by_cases e:i=j
    ·subst e;rw [Lb hj] at ht;cases ht;rw [hb] at hf;cases hf
    exact h7 i t (by omega) ht hf
   | false=>
    simp only [];obtain ⟨b,e1,e2⟩:=Qnv D.back T[j].1 (by omega);rw [e1];simp only [];have hnd:(D.all.map (·.1)).Nodup:=List.Sublist.nodup (List.Sublist.map _ h6) hC;refine Qa8 T C hC k (j+1) ⟨_,Qmq T[j].1 D.all,b,_⟩ (n+1) (by omega) hj (by omega) (by simp only [];omega) h5 ((Qkt _ _).trans h6) fun i t hi ht hf=>?_
    by_cases e:i=j
    ·subst e;rw [Lb hj] at ht;cases ht;exact Qrd hnd
    exact fun hm=>h7 i t (by omega) ht hf ((List.Sublist.map _ (Qkt _ _)).subset hm)
  rw [Mj (by omega)];simp only [];rw [Ae hj];refine ⟨D,n,rfl,h6,fun t ht hf=>?_⟩;obtain ⟨i,hi⟩:=Dd ht;exact h7 i t (by have:=(La.1 hi).1;omega) hi hf
theorem Qiq {c:List UInt8} {R:Reg} (hk:(R.map (·.1)).Nodup) {i:Nat} {C:RCl} (h:R[i]? = some (c,C)):Yx c 0 (R.eraseIdx i)=none:=by
 rcases Q57 c (R.eraseIdx i) 0 with ⟨e,_⟩ | ⟨j,v,_,_,hv⟩
 ·exact e
 exfalso;rw [No] at hv;have hm:c∈(R.eraseIdx i).map (·.1):=Ml.2 ⟨_,Mk hv,rfl⟩;rw [Qgy,Dg] at hm;obtain ⟨j,hj,hne,he⟩:=hm
 have hi:i<(R.map (·.1)).length:=by rw [Lp];exact (La.1 h).1
 have hx:(R.map (·.1))[i]=c:=by rw [List.getElem_map];rw [(La.1 h).2]
 exact hne ((Ee hk).1 (he.trans hx.symm))
theorem Qot {m:Nat} {R:Reg} (h:RI m R) (hm:m≤1000000) (c:List UInt8):∃ r,rClear R c=some r∧okAll r.2 c=true∧(rTopics r.2 c).length≤(rTopics R c).length∧∀ t∈rTopics r.2 c,t.2.2=true:=by
 have fin:∀ (C':RCl) (R':Reg) (C:RCl),CI m C->Q8n R c=C.all->Q8n R' c=C'.all->C'.all.Sublist C.all->(∀ t∈Q49 C.all,t.2.2=false->t.1 ∉ C'.all.map (·.1))->okAll R' c=true∧(rTopics R' c).length≤(rTopics R c).length∧∀ t∈rTopics R' c,t.2.2=true:=by
  intro C' R' C hC e1 e2 hs hf;refine ⟨?_,?_,fun t ht=>?_⟩
  ·unfold Tp.okAll;rw [e2];exact Ad ⟨by have:=hs.length_le;have:=hC.len;omega,List.Sublist.nodup (List.Sublist.map _ hs) hC.nd⟩
  ·unfold rTopics;rw [(Xr _).length_eq,(Xr _).length_eq,e1,e2];exact hs.length_le
  have h1:t∈C'.all:=by
   have:=(Xr _).mem_iff.1 ht
   rwa [e2] at this
  cases hb:t.2.2 with
  | true=>rfl
  | false=>exact absurd (Ml.2 ⟨t,h1,rfl⟩) (hf t ((Xr _).mem_iff.2 (hs.subset h1)) hb)
 unfold rClear
 rcases Q57 c R 0 with ⟨e,hn⟩ | ⟨i,C,e,_,hv⟩
 ·rw [e]
  have ea:Q8n R c = []:=by unfold Q8n;rw [e]
  refine ⟨_,rfl,h.okAll (by omega) c,Li _,fun t ht=>?_⟩;have:=(Xr _).mem_iff.1 ht;rw [ea] at this;cases this
 rw [e];rw [No] at hv;have hC:CI m C:=h.cl _ (Mk hv);simp only [];rw [Af ⟨by have:=hC.len;omega,hC.nd⟩];have hlen:(Q49 C.all).length=C.all.length:=(Xr _).length_eq;obtain ⟨C',n,h1,h2,h3⟩:=Qa8 (Q49 C.all) C hC.nd (C.all.length+1) 0 C 0 (by omega) (by omega) (by omega) (by omega) (by rw [hC.wc.1];have:=hC.len;simp;omega) (List.Sublist.refl _) (fun i t hi=>by omega);unfold Z2c;rw [h1];simp only [];refine ⟨_,rfl,fin C' _ C hC (by unfold Q8n;rw [e]) ?_ h2 h3⟩
 by_cases ha:C'.all = []
 ·simp only [Af ha];unfold Q8n;rw [Qiq h.keys hv,ha]
 simp only [Ae ha];have:=Qbs (c:=c) (d:=c) (C:=C') R 0 i e;rw [No,Af rfl] at this;unfold Q8n;rw [this]
end
end Go.Av
namespace Go.Av
noncomputable section
section
variable {R A S T:Type}
def Tot (f:Nat->Option R) (r:R):Prop:=∃ N0,∀ N,N0≤N->f N=some r
def TotP (f:Nat->Option R) (Q:R->Prop):Prop:=∃ r,Q r∧Tot f r
theorem Tot.of {f:Nat->Option R} {r:R} (h:∀ N,f N=some r):Tot f r:=⟨0,fun N _=>h N⟩
theorem Tot.ret (r:R):Tot (fun _=>some r) r := .of fun _=>rfl
theorem Tot.bind {f:Nat->Option A} {g:Nat->A->Option R} {v:A} {r:R} (h1:Tot f v) (h2:Tot (fun N=>g N v) r):Tot (fun N=>(f N).bind (g N)) r:=by
 obtain ⟨a,ha⟩:=h1;obtain ⟨b,hb⟩:=h2;exact ⟨max a b,fun N hN=>by show (f N).bind (g N)=_;rw [ha N (by omega)];exact hb N (by omega)⟩
theorem TotP.of {f:Nat->Option R} {r:R} {Q:R->Prop} (hq:Q r) (h:Tot f r):TotP f Q:=⟨r,hq,h⟩
theorem TotP.ret {r:R} {Q:R->Prop} (h:Q r):TotP (fun _=>some r) Q:=⟨r,h,.ret r⟩
theorem TotP.mono {f:Nat->Option R} {Q Q':R->Prop} (h:TotP f Q) (hq:∀ r,Q r->Q' r):TotP f Q':=by
 obtain ⟨r,h1,h2⟩:=h;exact ⟨r,hq r h1,h2⟩
theorem TotP.tot {f:Nat->Option R} {r:R} (h:TotP f (· = r)):Tot f r:=by obtain ⟨x,rfl,h2⟩:=h;exact h2
theorem TotP.bind {f:Nat->Option A} {g:Nat->A->Option R} {V:A->Prop} {Q:R->Prop} (h1:TotP f V) (h2:∀ v,V v->TotP (fun N=>g N v) Q):TotP (fun N=>(f N).bind (g N)) Q:=by
 obtain ⟨v,hv,t⟩:=h1;obtain ⟨r,hr,u⟩:=h2 v hv;exact ⟨r,hr,t.bind u⟩
theorem TotP.bindE {f:Nat->Option A} {g:Nat->A->Option R} {v:A} {Q:R->Prop} (h1:Tot f v) (h2:TotP (fun N=>g N v) Q):TotP (fun N=>(f N).bind (g N)) Q:=by
 obtain ⟨r,hr,u⟩:=h2;exact ⟨r,hr,h1.bind u⟩
theorem TotP.cond {b:Bool} {f g:Nat->Option R} {Q:R->Prop} (h1:b=true->TotP f Q) (h2:b=false->TotP g Q):TotP (fun N=>cond b (f N) (g N)) Q:=by
 cases b
 ·exact h2 rfl
 exact h1 rfl
theorem TotP.chk {b:Bool} {f:Nat->Option R} {Q:R->Prop} (hb:b=true) (h:TotP f Q):TotP (fun N=>_root_.cond b (f N) none) Q:=by subst hb;exact h
theorem TotP.idx {l:List T} {i:Int} {y:T} {g:Nat->T->Option R} {Q:R->Prop} (h:idx l i=some y) (h2:TotP (fun N=>g N y) Q):TotP (fun N=>(Go.Av.idx l i).bind (g N)) Q:=
 .bindE (.of fun _=>h) h2
def Stp (L:Nat->Nat->S->Option R) (P:S->Prop) (Q:R->Prop) (f:Nat->Nat->Option R):Prop:=
 (∃ r N0,Q r∧∀ N n,N0≤N->f N n=some r)∨∃ s N0,P s∧∀ N n,N0≤N->f N n=L N n s
section
variable {L:Nat->Nat->S->Option R} {P:S->Prop} {Q:R->Prop}
theorem Stp.fin {f:Nat->Option R} (h:TotP f Q):Stp L P Q (fun N _=>f N):=by
 obtain ⟨r,h1,N0,h2⟩:=h;exact .inl ⟨r,N0,h1,fun N _ hN=>h2 N hN⟩
theorem Stp.ret {r:R} (h:Q r):Stp L P Q (fun _ _=>some r) := .inl ⟨r,0,h,fun _ _ _=>rfl⟩
theorem Stp.go (s:S) (h:P s):Stp L P Q (fun N n=>L N n s) := .inr ⟨s,0,h,fun _ _ _=>rfl⟩
theorem Stp.bind {f:Nat->Option A} {g:Nat->Nat->A->Option R} {V:A->Prop} (h1:TotP f V) (h2:∀ v,V v->Stp L P Q (fun N n=>g N n v)):Stp L P Q (fun N n=>(f N).bind (g N n)):=by
 obtain ⟨v,hv,a,ha⟩:=h1
 rcases h2 v hv with ⟨r,b,hr,hb⟩ | ⟨s,b,hs,hb⟩
 ·exact .inl ⟨r,max a b,hr,fun N n hN=>by show (f N).bind _=_;rw [ha N (by omega)];exact hb N n (by omega)⟩
 exact .inr ⟨s,max a b,hs,fun N n hN=>by show (f N).bind _=_;rw [ha N (by omega)];exact hb N n (by omega)⟩
theorem Stp.idx {l:List T} {i:Int} {y:T} {g:Nat->Nat->T->Option R} (h:idx l i=some y) (h2:Stp L P Q (fun N n=>g N n y)):Stp L P Q (fun N n=>(Go.Av.idx l i).bind (g N n)):=
 .bind (f:=fun _=>Go.Av.idx l i) (V:=(· = y)) ⟨y,rfl,.of fun _=>h⟩ (fun v hv=>by subst hv;exact h2)
theorem Stp.cond {b:Bool} {f g:Nat->Nat->Option R} (h1:b=true->Stp L P Q f) (h2:b=false->Stp L P Q g):Stp L P Q (fun N n=>cond b (f N n) (g N n)):=by
 cases b
 ·exact h2 rfl
 exact h1 rfl
theorem Stp.chk {b:Bool} {f:Nat->Nat->Option R} (hb:b=true) (h:Stp L P Q f):Stp L P Q (fun N n=>_root_.cond b (f N n) none):=by subst hb;exact h
theorem Q5w (inv:S->Prop) (μ:S->Nat) (step:∀ s,inv s->Stp L (fun s'=>inv s' ∧ μ s' < μ s) Q (fun N n=>L N (n+1) s)) (s:S) (h:inv s):TotP (fun N=>L N N s) Q:=by
 have key:∀ (m:Nat) (s:S),μ s<m->inv s->∃ r N0,Q r∧∀ N n,N0≤N->N0≤n->L N n s=some r:=by
  intro m
  induction m with
  | zero=>intro s h;omega
  | succ m ih=>
   intro s hm hi
   rcases step s hi with ⟨r,N0,hr,hL⟩ | ⟨s',N0,⟨h1,h2⟩,hL⟩
   ·refine ⟨r,N0+1,hr,fun N n h1 h2=>?_⟩;obtain ⟨k,rfl⟩:∃ k,n=k+1:=⟨n - 1,by omega⟩;exact hL N k (by omega)
   obtain ⟨r,M0,hr,hM⟩:=ih s' (by omega) h1;refine ⟨r,max N0 M0+1,hr,fun N n h1 h2=>?_⟩;obtain ⟨k,rfl⟩:∃ k,n=k+1:=⟨n - 1,by omega⟩;exact (hL N k (by omega)).trans (hM N k (by omega) (by omega))
 obtain ⟨r,N0,hr,hL⟩:=key (μ s+1) s (by omega) h;exact ⟨r,hr,N0,fun N hN=>hL N N hN hN⟩
end
theorem Q4a {L:Nat->Nat->Int->Option R} {Q:R->Prop} (m:Nat) (J:Nat->Prop) (step:∀ i,i<m->J i->Stp L (fun s=>s=((i+1:Nat):Int)∧J (i+1)) Q (fun N n=>L N (n+1) (i:Int)))
  (fin:J m->Stp L (fun _=>False) Q (fun N n=>L N (n+1) (m:Int))) (h0:J 0):TotP (fun N=>L N N 0) Q:=by
 refine Q5w (S:=Int) (fun s=>∃ i:Nat,s=(i:Int)∧i≤m∧J i) (fun s=>m - s.toNat) ?_ 0 ⟨0,rfl,Ms _,h0⟩
 rintro s ⟨i,rfl,hi,hj⟩
 by_cases h:i<m
 ·rcases step i h hj with ⟨r,N0,hr,hL⟩ | ⟨s',N0,⟨rfl,h2⟩,hL⟩
  ·exact .inl ⟨r,N0,hr,hL⟩
  exact .inr ⟨_,N0,⟨⟨i+1,rfl,h,h2⟩,by simp only [Lu];omega⟩,hL⟩
 have:i=m:=by omega
 subst this
 rcases fin hj with ⟨r,N0,hr,hL⟩ | ⟨s',N0,h2,hL⟩
 ·exact .inl ⟨r,N0,hr,hL⟩
 exact h2.elim
end
theorem Qs (x y:Int):Q2 .lss x y=decide (x<y):=rfl
theorem Vz (x y:Int):Q2 .leq x y=decide (x≤y):=rfl
theorem U3 (x y:Int):Q2 .gtr x y=decide (x>y):=rfl
theorem Jm (x y:Int):Q2 .geq x y=decide (x≥y):=rfl
theorem Zp (x y:Int):Q2 .eql x y=decide (x=y):=by unfold Q2;by_cases h:x=y<;>simp [h]
theorem Je (x y:Int):Q2 .neq x y=decide (x≠y):=by unfold Q2;by_cases h:x=y<;>simp [h]
theorem w64 (x:Int) (h : -9223372036854775808≤x∧x≤9223372036854775807):wrap .i64 x=x:=IntWalk.i64_in x h
theorem Zo {T:Type} {l:List T} {i:Nat} (h:i<l.length):idx l (i:Int)=some l[i]:=Lb h
theorem Qae:maxLen≤9223372036854775807:=by unfold maxLen;decide
end
end Go.Av
namespace Go.Av
noncomputable section
def at8 (s:List UInt8) (i:Nat):Nat:=(s.getD i 0).toNat
theorem Q65 (s:List UInt8) (i:Nat):at8 s i<256:=Ej _
theorem Q6h {s:List UInt8} {i:Nat} (h:i<s.length):at8 s i=(s[i]).toNat:=by simp [at8,h]
def goes (s:List UInt8) (i:Nat):Prop:=i<s.length∧128≤at8 s i∧at8 s i<192
instance (s:List UInt8) (i:Nat):Decidable (goes s i):=inferInstanceAs (Decidable (_∧_))
def Q7y (c:Nat):Prop:=¬ (55296≤c∧c≤57343)∧c≤1114111
instance (c:Nat):Decidable (Q7y c):=inferInstanceAs (Decidable (_∧_))
def Q48 (s:List UInt8) (i:Nat):Nat×Nat:=
 if at8 s i<128 then (at8 s i,1)
 else if 192≤at8 s i∧at8 s i<224∧goes s (i+1)∧128≤64 * (at8 s i - 192)+(at8 s (i+1) - 128) then (64 * (at8 s i - 192)+(at8 s (i+1) - 128),2)
 else if 224≤at8 s i∧at8 s i<240∧goes s (i+1)∧goes s (i+2)∧2048≤64 * (64 * (at8 s i - 224)+(at8 s (i+1) - 128))+(at8 s (i+2) - 128)∧Q7y (64 * (64 * (at8 s i - 224)+(at8 s (i+1) - 128))+(at8 s (i+2) - 128)) then
  (64 * (64 * (at8 s i - 224)+(at8 s (i+1) - 128))+(at8 s (i+2) - 128),3)
 else if 240≤at8 s i∧at8 s i<248∧goes s (i+1)∧goes s (i+2)∧goes s (i+3)∧65536≤64 * (64 * (64 * (at8 s i - 240)+(at8 s (i+1) - 128))+(at8 s (i+2) - 128))+(at8 s (i+3) - 128) ∧
   Q7y (64 * (64 * (64 * (at8 s i - 240)+(at8 s (i+1) - 128))+(at8 s (i+2) - 128))+(at8 s (i+3) - 128)) then
  (64 * (64 * (64 * (at8 s i - 240)+(at8 s (i+1) - 128))+(at8 s (i+2) - 128))+(at8 s (i+3) - 128),4)
 else (65533,1)
theorem Qg4 (c:Nat):Utf8.valid (c:Int)=true↔Q7y c:=by
 unfold Utf8.valid Q7y;simp only [Lc,Nl,Be,Ag,An];omega
theorem Qsd (a b c d:Nat) (G1 G2 G3:Prop) [Decidable G1] [Decidable G2] [Decidable G3] (h0:a<256) (q1:G1->128≤b∧b<192) (q2:G2->128≤c∧c<192) (q3:G3->128≤d∧d<192) :
  (if a<128 then (a,1)
   else if (a / 32 == 6&&decide G1)=true then (if a % 32 * 64+b % 64≥128 then (a % 32 * 64+b % 64,2) else (65533,1))
   else if (a / 16 == 14&&decide G1&&decide G2)=true then (if (decide (a % 16 * 4096+b % 64 * 64+c % 64≥2048)&&Utf8.valid ((a % 16 * 4096+b % 64 * 64+c % 64:Nat):Int))=true then (a % 16 * 4096+b % 64 * 64+c % 64,3) else (65533,1))
   else if (a / 8 == 30&&decide G1&&decide G2&&decide G3)=true then (if (decide (a % 8 * 262144+b % 64 * 4096+c % 64 * 64+d % 64≥65536)&&Utf8.valid ((a % 8 * 262144+b % 64 * 4096+c % 64 * 64+d % 64:Nat):Int))=true then (a % 8 * 262144+b % 64 * 4096+c % 64 * 64+d % 64,4) else (65533,1))
   else (65533,1)) =
  (if a<128 then (a,1)
   else if 192≤a∧a<224∧G1∧128≤64 * (a - 192)+(b - 128) then (64 * (a - 192)+(b - 128),2)
   else if 224≤a∧a<240∧G1∧G2∧2048≤64 * (64 * (a - 224)+(b - 128))+(c - 128)∧Q7y (64 * (64 * (a - 224)+(b - 128))+(c - 128)) then (64 * (64 * (a - 224)+(b - 128))+(c - 128),3)
   else if 240≤a∧a<248∧G1∧G2∧G3∧65536≤64 * (64 * (64 * (a - 240)+(b - 128))+(c - 128))+(d - 128)∧Q7y (64 * (64 * (64 * (a - 240)+(b - 128))+(c - 128))+(d - 128)) then
    (64 * (64 * (64 * (a - 240)+(b - 128))+(c - 128))+(d - 128),4)
   else (65533,1)):=by
 simp only [Lc,Ag,Aj,Qg4,ge_iff_le];have e2:∀ x,Q7y x=(¬ (55296≤x∧x≤57343)∧x≤1114111):=fun x=>rfl
 by_cases c1:a<128
 ·rw [Af c1,Af c1]
 rw [Ae c1,Ae c1]
 by_cases c2:a<192
 ·rw [Ae (by omega),Ae (by omega),Ae (by omega),Ae (by omega),Ae (by omega),Ae (by omega)]
 by_cases c3:a<224
 ·by_cases g1:G1
  ·have:=q1 g1
   have e:a % 32 * 64+b % 64=64 * (a - 192)+(b - 128):=by omega
   rw [Af ⟨by omega,g1⟩,e]
   by_cases c4:128≤64 * (a - 192)+(b - 128)
   ·rw [Af c4,Af ⟨by omega,c3,g1,c4⟩]
   rw [Ae c4,Ae (fun h=>c4 h.2.2.2),Ae (by omega),Ae (by omega)]
  rw [Ae (fun h=>g1 h.2),Ae (by omega),Ae (by omega),Ae (fun h=>g1 h.2.2.1),Ae (by omega),Ae (by omega)]
 rw [Ae (by omega),Ae (c:=192≤a∧_) (by omega)]
 by_cases c5:a<240
 ·by_cases g:G1∧G2
  ·have:=q1 g.1;have:=q2 g.2
   have e:a % 16 * 4096+b % 64 * 64+c % 64=64 * (64 * (a - 224)+(b - 128))+(c - 128):=by omega
   rw [Af ⟨⟨by omega,g.1⟩,g.2⟩,e]
   by_cases c4:2048≤64 * (64 * (a - 224)+(b - 128))+(c - 128)∧Q7y (64 * (64 * (a - 224)+(b - 128))+(c - 128))
   ·rw [Af c4,Af ⟨by omega,c5,g.1,g.2,c4⟩]
   rw [Ae c4,Ae (fun h=>c4 h.2.2.2.2),Ae (by omega)]
  rw [Ae (fun h=>g ⟨h.1.2,h.2⟩),Ae (by omega),Ae (fun h=>g ⟨h.2.2.1,h.2.2.2.1⟩),Ae (by omega)]
 rw [Ae (by omega),Ae (c:=224≤a∧_) (by omega)]
 by_cases c6:a<248
 ·by_cases g:G1∧G2∧G3
  ·have:=q1 g.1;have:=q2 g.2.1;have:=q3 g.2.2
   have e:a % 8 * 262144+b % 64 * 4096+c % 64 * 64+d % 64=64 * (64 * (64 * (a - 240)+(b - 128))+(c - 128))+(d - 128):=by omega
   rw [Af ⟨⟨⟨by omega,g.1⟩,g.2.1⟩,g.2.2⟩,e]
   by_cases c4:65536≤64 * (64 * (64 * (a - 240)+(b - 128))+(c - 128))+(d - 128)∧Q7y (64 * (64 * (64 * (a - 240)+(b - 128))+(c - 128))+(d - 128))
   ·rw [Af c4,Af ⟨by omega,c6,g.1,g.2.1,g.2.2,c4⟩]
   rw [Ae c4,Ae (fun h=>c4 h.2.2.2.2.2)]
  rw [Ae (fun h=>g ⟨h.1.1.2,h.1.2,h.2⟩),Ae (fun h=>g ⟨h.2.2.1,h.2.2.2.1,h.2.2.2.2.1⟩)]
 rw [Ae (by omega),Ae (by omega)]
theorem Qzk (s:List UInt8) (j:Nat):(decide (j<s.length)&&(at8 s j / 64 == 2))=decide (goes s j):=by
 have hk:=Q65 s j
 by_cases hg:goes s j
 ·have h4:at8 s j / 64=2:=by have:=hg.2;omega
  simp [hg,hg.1,h4]
 simp only [hg,decide_false,Cz,An]
 by_cases hl:j<s.length
 ·right;simp only [beq_eq_false_iff_ne,ne_eq]
  intro h4;exact hg ⟨hl,by omega,by omega⟩
 exact .inl hl
theorem Qjq (s:List UInt8) (i:Nat):Q7w s i=Q48 s i:=by
 have u:∀ j,(s.getD j 0).toNat=at8 s j:=fun _=>rfl;have:=Qsd (at8 s i) (at8 s (i+1)) (at8 s (i+2)) (at8 s (i+3)) (goes s (i+1)) (goes s (i+2)) (goes s (i+3)) (Q65 _ _) (fun h=>h.2) (fun h=>h.2) (fun h=>h.2);unfold Q48;rw [← this];unfold Q7w;simp only [Nn,u,Qzk];rfl
theorem Qkm (s:List UInt8) (i:Nat) (h:i<s.length):1≤(Q48 s i).2∧i+(Q48 s i).2≤s.length∧((Q48 s i).1<128↔at8 s i<128)∧(at8 s i<128->(Q48 s i).1=at8 s i∧(Q48 s i).2=1) ∧
  (∀ k,1≤k->k<(Q48 s i).2->128≤at8 s (i+k))∧Q7y (Q48 s i).1:=by
 have h0:=Q65 s i;unfold Q48;split
 ·refine ⟨by simp,by simp;omega,by simp,fun _=>⟨rfl,rfl⟩,fun k h1 h2=>by simp at h2;omega,by unfold Q7y;simp;omega⟩
 split
 ·rename_i h1 h2;obtain ⟨_,_,g1,h3⟩:=h2;refine ⟨by simp,by simp;have:=g1.1;omega,by simp;omega,fun h=>by omega,fun k h4 h5=>?_,by unfold Q7y;simp only;have:=g1.2;omega⟩
  have:k=1:=by simp at h5;omega
  subst this;exact g1.2.1
 split
 ·rename_i h1 h2 h3;obtain ⟨_,_,g1,g2,h3,h6⟩:=h3;refine ⟨by simp,by simp;have:=g2.1;omega,by simp;omega,fun h=>by omega,fun k h4 h5=>?_,h6⟩
  have:k=1∨k=2:=by simp at h5;omega
  rcases this with rfl | rfl
  ·exact g1.2.1
  exact g2.2.1
 split
 ·rename_i h1 h2 h3 h4;obtain ⟨_,_,g1,g2,g3,h3,h6⟩:=h4;refine ⟨by simp,by simp;have:=g3.1;omega,by simp;omega,fun h=>by omega,fun k h4 h5=>?_,h6⟩
  have:k=1∨k=2∨k=3:=by simp at h5;omega
  rcases this with rfl | rfl | rfl
  ·exact g1.2.1
  ·exact g2.2.1
  exact g3.2.1
 rename_i h1 h2 h3 h4;exact ⟨by simp,by simp;omega,by simp;omega,fun h=>by omega,fun k h4 h5=>by simp at h5;omega,by unfold Q7y;simp⟩
def Qn9 (s:List UInt8) (i:Nat):Prop:=Q48 s i=(65533,1)
instance (s:List UInt8) (i:Nat):Decidable (Qn9 s i):=inferInstanceAs (Decidable (_=_))
def Qhw (s:List UInt8) (pos:Nat):Option Nat:=
 if h:pos<s.length then (if (Q48 s pos).1=0∨Qn9 s pos then some pos else Qhw s (pos+(Q48 s pos).2)) else none
termination_by s.length - pos
decreasing_by have:=(Qkm s pos h).1;omega
end
end Go.Av
namespace Go.Av
noncomputable section
open Go.Proofs
theorem Qwj {b:UInt8} {n:Nat} (h:b.toNat=n) (hn:n<256):b=UInt8.ofNat n:=by
 apply Eg.1;rw [h];simp [UInt8.toNat_ofNat];omega
theorem Qpg {s:List UInt8} {i:Nat} (hi:i<s.length) (hc:(Q48 s i).1=65533):(3≤(s.drop i).length∧(s.drop i).take 3 = [239,191,189])↔¬ Qn9 s i:=by
 constructor
 ·rintro ⟨h1,h2⟩ hn
  have hl:i+2<s.length:=by simp at h1;omega
  have g:∀ k,k<3->s[i+k]? = ([239,191,189]:List UInt8)[k]? := by
   intro k hk;rw [← h2,Md,Af hk,Mg]
  have a0:at8 s i=239:=by have:=g 0 (by omega);simp at this;simp [at8,List.getD_eq_getElem?_getD,this]
  have a1:at8 s (i+1)=191:=by have:=g 1 (by omega);simp at this;simp [at8,List.getD_eq_getElem?_getD,this]
  have a2:at8 s (i+2)=189:=by have:=g 2 (by omega);simp at this;simp [at8,List.getD_eq_getElem?_getD,this]
  have g1:goes s (i+1):=⟨by omega,by omega,by omega⟩;have g2:goes s (i+2):=⟨by omega,by omega,by omega⟩;unfold Qn9 Q48 at hn;rw [a0,a1,a2] at hn;simp [g1,g2,Q7y] at hn
 intro hn;have h0:=Q65 s i;unfold Qn9 at hn;unfold Q48 at hn hc;split at hn
 ·rename_i h1;rw [Af h1] at hc;simp at hc;omega
 rename_i h1;rw [Ae h1] at hc;split at hn
 ·rename_i h2;rw [Af h2] at hc;obtain ⟨_,_,g1,_⟩:=h2;have:=g1.2;simp at hc;omega
 rename_i h2;rw [Ae h2] at hc;split at hn
 ·rename_i h3;rw [Af h3] at hc;obtain ⟨_,_,g1,g2,_⟩:=h3;have b1:=g1.2;have b2:=g2.2;have l2:=g2.1
  simp only at hc
  have a0:at8 s i=239:=by omega
  have a1:at8 s (i+1)=191:=by omega
  have a2:at8 s (i+2)=189:=by omega
  rw [Q6h (by omega)] at a0 a1 a2;refine ⟨by simp;omega,?_⟩;apply Mm;intro k;rw [Md]
  by_cases hk:k<3
  ·rw [Af hk,Mg]
   have:k=0∨k=1∨k=2:=by omega
   rcases this with rfl | rfl | rfl
   ·rw [Nn,Lb (by omega),Qwj a0 (by omega)];rfl
   ·rw [Lb (by omega),Qwj a1 (by omega)];rfl
   rw [Lb (by omega),Qwj a2 (by omega)];rfl
  rw [Ae hk];simp;omega
 rename_i h3;rw [Ae h3] at hc;split at hn
 ·rename_i h4;rw [Af h4] at hc;obtain ⟨_,_,g1,g2,g3,h5,h6⟩:=h4
  simp only at hc
  omega
 exact absurd rfl hn
theorem Qrp (N:Nat) (s:List UInt8):G0 N s=some (decide (3≤s.length∧s.take 3 = [239,191,189])):=by
 unfold G0;rw [Jm]
 by_cases h:3≤s.length
 ·have h1:decide ((s.length:Int)≥3)=true:=by simp;omega
  have h2:(Nat.ble 0 3&&Nat.ble 3 s.length)=true:=by simp [h]
  rw [h1,h2];simp only [Ai,Nz,Jz]
  congr 1
  by_cases h3:s.take 3 = [239,191,189]<;>simp [h,h3]
 have h1:decide ((s.length:Int)≥3)=false:=by simp;omega
 rw [h1];simp [h]
def Qyb (o:Option Nat):Int:=match o with
 | some p=>p
 | none => -1
theorem Qww (s:List UInt8):Tot (fun N=>Q1l N s) (Qyb (Qhw s 0)):=by
 refine TotP.tot ?_;show TotP (fun N=>Wj N s N 0) _;refine Q5w (L:=fun N n (p:Nat)=>Wj N s n p) (fun p=>Qhw s p=Qhw s 0) (fun p=>s.length - p) (fun p hp=>?_) 0 rfl;show Stp _ _ _ (fun N n=>cond (Nat.blt p s.length) _ _);refine Stp.cond (fun h=>?_) (fun h=>?_)
 ·have hl:p<s.length:=by simpa [Nat.blt_eq] using h
  rw [Qjq];have hw:=Qkm s p hl
  have hb:Qhw s p=(if (Q48 s p).1=0∨Qn9 s p then some p else Qhw s (p+(Q48 s p).2)):=by rw [Qhw,dif_pos hl]
  rw [Zp,Zp];refine Stp.cond (fun h0=>?_) (fun h0=>?_)
  ·have h0:(Q48 s p).1=0:=by simpa using h0
   refine Stp.ret ?_;rw [← hp,hb,Af (.inl h0)];rfl
  have h0:(Q48 s p).1≠0:=by simpa using h0
  refine Stp.cond (fun h1=>?_) (fun h1=>?_)
  ·have h1:(Q48 s p).1=65533:=by have:=Aa h1;omega
   refine Stp.chk (by simp;omega) ?_;rw [Ed];refine Stp.bind (V:=(· = decide (3≤(s.drop p).length∧(s.drop p).take 3 = [239,191,189]))) ⟨_,rfl,.of fun N=>Qrp N _⟩ ?_
   rintro v rfl
   have hwi:=Qpg hl h1;refine Stp.cond (fun h2=>?_) (fun h2=>?_)
   ·have h2:¬ (3≤(s.drop p).length∧(s.drop p).take 3 = [239,191,189]):=by
     have:(!decide (3≤(s.drop p).length∧(s.drop p).take 3 = [239,191,189]))=true:=h2;simpa only [Be,An] using this
    have h3:Qn9 s p:=Lt fun h=>h2 (hwi.2 h);refine Stp.ret ?_;rw [← hp,hb,Af (.inr h3)];rfl
   have h2:(3≤(s.drop p).length∧(s.drop p).take 3 = [239,191,189]):=by
    have:(!decide (3≤(s.drop p).length∧(s.drop p).take 3 = [239,191,189]))=false:=h2;simpa only [Bool.not_eq_false',Ag] using this
   refine Stp.go (p+(Q48 s p).2) ⟨?_,by have:=hw.1;have:=hw.2.1;omega⟩;rw [← hp,hb,Ae]
   rintro (h | h)
   ·exact h0 h
   exact hwi.1 h2 h
  have h1:(Q48 s p).1≠65533:=by intro e;rw [e] at h1;simp at h1
  refine Stp.go (p+(Q48 s p).2) ⟨?_,by have:=hw.1;have:=hw.2.1;omega⟩;rw [← hp,hb,Ae]
  rintro (h | h)
  ·exact h0 h
  unfold Qn9 at h;rw [h] at h1;exact h1 rfl
 have hl:¬ p<s.length:=fun hlt=>by
  have h':Nat.blt p s.length=true:=by rw [Cp];exact hlt
  rw [h'] at h;cases h
 refine Stp.ret ?_;rw [← hp,Qhw,dif_neg hl];rfl
def Q2v (s:List UInt8):Bool:=decide (s.length≤65535)&&(Qhw s 0).isNone
theorem Qru (o:Option Nat):decide (Qyb o = -1)=o.isNone:=by
 cases o with
 | none=>rfl
 | some p=>simp [Qyb]
theorem Q7m (s:List UInt8):Tot (fun N=>Vs N s) (Q2v s):=by
 refine TotP.tot ?_;show TotP (fun N=>cond (Q2 .leq (s.length:Int) 65535) _ _) _;rw [Vz];refine TotP.cond (fun h=>?_) (fun h=>?_)
 ·have h:s.length≤65535:=by have:=Aa h;omega
  refine TotP.bindE (Qww s) (.ret ?_);rw [Zp,Qru];simp [Q2v,h]
 have h:¬ s.length≤65535:=by have:=Ac h;omega
 exact .ret (by simp [Q2v,h])
end
end Go.Av
namespace Go.Av
noncomputable section
open Go.Proofs
theorem Qec (s:List UInt8):Tot (fun N=>Q1d N s) (decide (s ≠ [])&&Q2v s):=by
 refine TotP.tot ?_;show TotP (fun N=>cond (Jz .neq s []) _ _) _
 have e:Jz .neq s []=decide (s ≠ []):=by cases s<;>rfl
 rw [e];refine TotP.cond (fun h=>?_) (fun h=>?_)
 ·exact .bindE (Q7m s) (.ret (by rw [h];rfl))
 exact .ret (by rw [h];rfl)
theorem Qne (c:UInt8):∀ (l:List UInt8) (i:Nat),(0≤Q9a l c i)↔c∈l
 | [],i=>by simp [Q9a]
 | b::l,i=>by
  unfold Q9a
  by_cases h:b == c
  ·rw [Af h];have:=eq_of_beq h;subst this;simp
  rw [Ae h,Qne c l (i+1)];have:¬ c=b:=fun e=>h (by simp [e]);simp [this]
theorem Qsz {c:Nat} (h:Q7y c) (h1:128≤c):∃ l:List UInt8,(Utf8.encode (c:Int)).data.toList=l∧2≤l.length∧l.length≤4∧∀ b∈l,128≤b.toNat:=by
 have hv:=(Qg4 c).2 h;unfold Utf8.encode;simp only [hv,Ak,Lu];have h2:=h.2
 have m:∀ n,n<256->128≤n->128≤(UInt8.ofNat n).toNat:=fun n a b=>by rw [Dn];omega
 rw [Ae (by omega)];split
 ·refine ⟨_,rfl,by simp,by simp,fun b hb=>?_⟩;simp only [Lx,Mz,or_false] at hb
  rcases hb with rfl | rfl<;>exact m _ (by omega) (by omega)
 split
 ·refine ⟨_,rfl,by simp,by simp,fun b hb=>?_⟩;simp only [Lx,Mz,or_false] at hb
  rcases hb with rfl | rfl | rfl<;>exact m _ (by omega) (by omega)
 refine ⟨_,rfl,by simp,by simp,fun b hb=>?_⟩;simp only [Lx,Mz,or_false] at hb
 rcases hb with rfl | rfl | rfl | rfl<;>exact m _ (by omega) (by omega)
theorem Qtf (M:Nat):Y8 (M+3) [43,35] (M+3) 0=some (-1):=by
 have e1:Q7w [43,35] 0=(43,1):=by decide
 have e2:Q7w [43,35] (0+1)=(35,1):=by decide
 have b0:Nat.blt 0 ([43,35]:List UInt8).length=true:=rfl;have b1:Nat.blt (0+1) ([43,35]:List UInt8).length=true:=rfl;have b2:Nat.blt (0+1+1) ([43,35]:List UInt8).length=false:=rfl
 have c1:Q2 .eql ((43:Nat):Int) 65533=false:=by decide
 have c2:Q2 .eql ((35:Nat):Int) 65533=false:=by decide
 rw [Y8,e1,b0,Ai,c1,Ah,Y8,e2,b1,Ai,c2,Ah,Y8,b2,Ah]
theorem Qwa {c:Nat} (hc:Q7y c) (N:Nat):Xz N (c:Int)=some true:=by
 unfold Xz;simp only [Vz,Qs];obtain ⟨k1,k2⟩:=hc;rw [Ad (show (0:Int)≤(c:Int) by omega)]
 by_cases h5:(c:Int)<55296
 ·rw [Ad h5];rfl
 have h6:(57343:Int)<(c:Int):=by omega
 have h7:(c:Int)≤1114111:=by omega
 rw [Ab h5,Ad h6,Ad h7];rfl
theorem Qrf {c:Nat} (hc:Q7y c) (h:128≤c) (M:Nat):Xl (M+1) [43,35] (c:Int) (M+1)=some (-1):=by
 obtain ⟨l,hl,l1,l2,l3⟩:=Qsz hc h;rw [Xl];simp only [hl,Qs,Je]
 have ew:wrap .i64 ((l.length:Int) - 1)=((l.length - 1:Nat):Int):=by rw [w64 _ (by omega)];omega
 rw [ew]
 by_cases h2:l.length=2
 ·have e1:((l.length - 1:Nat):Int)=((1:Nat):Int):=by rw [h2]
  rw [e1];have e2:idx l ((1:Nat):Int)=some l[1]:=Zo (by omega);have e3:=l3 l[1] (Mn _);generalize l[1]=y at e2 e3
  have e4:decide (((35:UInt8).toNat:Int)≠(y.toNat:Int))=true:=by
   have:(35:UInt8).toNat=35:=rfl;simp only [ne_eq,Ag];omega
  have e5:idx ([43,35]:List UInt8) ((1:Nat):Int)=some 35:=rfl
  have e6:wrap .i64 (((1:Nat):Int)+1)=2:=by decide
  have e7:decide (((1:Nat):Int)<((([43,35]:List UInt8).length:Nat):Int))=true:=by decide
  have e8:decide ((0:Int)≤2)=true:=by decide
  rw [e7,Ai,e5,Lf,e2,Lf,e4,Ai,e6,e8,Ai]
  have e9:(Nat.ble (Int.toNat 2) ([43,35]:List UInt8).length&&Nat.ble ([43,35]:List UInt8).length ([43,35]:List UInt8).length)=true:=by decide
  rw [e9,Ai,Lf];rfl
 have e1:decide (((l.length - 1:Nat):Int)<((([43,35]:List UInt8).length:Nat):Int))=false:=by
  simp;omega
 rw [e1];rfl
theorem Qeu {c:Nat} (hc:Q7y c):TotP (fun N=>J8 N [43,35] (c:Int)) (fun v=>decide (v≥0)=decide (c=43∨c=35)):=by
 show TotP (fun N=>cond (Q2 .leq 0 (c:Int)) _ _) _
 have e0:Q2 .leq 0 (c:Int)=true:=by rw [Vz];simp
 rw [e0];refine TotP.cond (fun _=>?_) (fun h=>by cases h);unfold Wo;rw [Qs,Zp];refine TotP.cond (fun h=>?_) (fun h=>?_)
 ·have h:c<128:=by have:=Aa h;omega
  have ew:wrap .u8 (c:Int)=c:=by
   rw [IntWalk.u8_in];omega
  refine TotP.bindE (v:=Q9a [43,35] (UInt8.ofNat c) 0) (.of fun N=>?_) (.ret ?_)
  ·show ((Zg N [43,35] _).bind fun v=>some v)=_;rw [ew];rfl
  have:=Qne (UInt8.ofNat c) [43,35] 0;rw [decide_eq_decide];show (0≤_)↔_;rw [this]
  have e1:∀ n,n<256->(UInt8.ofNat c=UInt8.ofNat n↔c=n):=fun n hn=>by
   rw [← Eg,Dn,Dn];omega
  have a:=e1 43 (by omega);have b:=e1 35 (by omega);simp only [Lx,Mz,or_false];exact or_congr a b
 have h:128≤c:=by have:=Ac h;omega
 have hn:decide (c=43∨c=35)=false:=by simp;omega
 refine TotP.cond (fun h1=>?_) (fun h1=>?_)
 ·-- bytes that are none
  refine ⟨-1,by rw [hn];rfl,3,fun N hN=>?_⟩;obtain ⟨M,rfl⟩:∃ M,N=M+3:=⟨N - 3,by omega⟩;exact Qtf M
 refine TotP.bindE (.of (Qwa hc)) ?_;refine TotP.cond (fun h=>by cases h) (fun _=>?_);refine ⟨-1,by rw [hn];rfl,1,fun N hN=>?_⟩;obtain ⟨M,rfl⟩:∃ M,N=M+1:=⟨N - 1,by omega⟩;exact Qrf hc h M
end
end Go.Av
namespace Go.Av
noncomputable section
open Go.Proofs
def Qlp (s:List UInt8):Bool:=s.any fun b=>b.toNat == 43||b.toNat == 35
theorem Qup {s:List UInt8} {j:Nat} (hj:j<s.length) (h:at8 s j=43∨at8 s j=35):Qlp s=true:=by
 unfold Qlp;rw [Cx];refine ⟨s[j],Mn _,?_⟩;rw [Q6h hj] at h
 rcases h with h | h<;>simp [h]
theorem Qu6 {s:List UInt8} (h:∀ j,j<s.length->at8 s j≠43∧at8 s j≠35):Qlp s=false:=by
 unfold Qlp;rw [Ds];intro b hb;obtain ⟨j,hj,rfl⟩:=Dk hb;have:=h j hj;rw [Q6h hj] at this;simp [this.1,this.2]
def asciiS:List Bool:=(List.range 256).map fun n=>n == 43||n == 35
theorem Qp1 (n:Nat) (h:n<256):idx asciiS (n:Int)=some (n == 43||n == 35):=by
 have hl:n<asciiS.length:=by simp [asciiS];exact h
 rw [Zo hl];simp [asciiS]
set_option maxRecDepth 20000 in
theorem Qgq (s:List UInt8) (hs:s.length≤maxLen):TotP (fun N=>Ug N s) (fun v=>decide (v≥0)=Qlp s):=by
 have hm:=Qae;show TotP (fun N=>cond (Jz .eql [43,35] []) _ _) _;refine TotP.cond (fun h=>by cases h) (fun _=>?_);refine TotP.bindE (v:=decide ((s.length:Int)>8)) (.of fun N=>rfl) ?_;refine TotP.cond (fun _=>?_) (fun _=>?_)
 ·refine Q4a (L:=fun N n i=>X7 N s n i) s.length (fun i=>∀ j,j<i->at8 s j≠43∧at8 s j≠35) (fun i hi hj=>?_) (fun hj=>?_) (fun j hj=>by omega)
  ·show Stp _ _ _ (fun N n=>cond (Q2 .lss (i:Int) (s.length:Int)) _ _);refine Stp.cond (fun _=>?_) (fun h=>by rw [Qs] at h;have:=Ac h;omega);refine Stp.idx (Zo hi) ?_;have hb:=Ej s[i];refine Stp.chk (by simp;omega) ?_;refine Stp.idx (Qp1 _ (by omega)) ?_;refine Stp.cond (fun h=>?_) (fun h=>?_)
   ·refine Stp.ret ?_;rw [Qup hi (by rw [Q6h hi];simpa using h)];simp
   rw [w64 _ (by omega)];refine Stp.go _ ⟨by omega,fun j hj'=>?_⟩
   by_cases e:j=i
   ·subst e;rw [Q6h hi];simpa using h
   exact hj j (by omega)
  show Stp _ _ _ (fun N n=>cond (Q2 .lss (s.length:Int) (s.length:Int)) _ _);refine Stp.cond (fun h=>by rw [Qs] at h;have:=Aa h;omega) (fun _=>?_);refine Stp.ret ?_;rw [Qu6 hj];rfl
 refine Q5w (L:=fun N n (p:Nat)=>X5 N s n p) (fun p=>∀ j,j<p->at8 s j≠43∧at8 s j≠35) (fun p=>s.length - p) (fun p hp=>?_) 0 (fun j hj=>by omega);show Stp _ _ _ (fun N n=>cond (Nat.blt p s.length) _ _);refine Stp.cond (fun h=>?_) (fun h=>?_)
 ·have hl:p<s.length:=by simpa [Nat.blt_eq] using h
  rw [Qjq];obtain ⟨w1,w2,w3,w4,w5,w6⟩:=Qkm s p hl;refine Stp.bind (Qeu w6) ?_;intro v hv;rw [Jm,hv];refine Stp.cond (fun h=>?_) (fun h=>?_)
  ·have h:=Aa h;have h128:at8 s p<128:=w3.1 (by omega);refine Stp.ret ?_;rw [Qup hl (by rw [← (w4 h128).1];exact h)];simp
  have h:=Ac h;refine Stp.go _ ⟨fun j hj=>?_,by omega⟩
  by_cases e:j<p
  ·exact hp j e
  by_cases e2:j=p
  ·subst e2
   by_cases h128:at8 s j<128
   ·rw [(w4 h128).1] at h;omega
   omega
  have:=w5 (j - p) (by omega) (by omega);rw [show p+(j - p)=j by omega] at this;omega
 refine Stp.ret ?_;rw [Qu6 (fun j hj=>hp j ?_)]
 ·rfl
 have:¬ p<s.length:=fun hlt=>by
  have h':Nat.blt p s.length=true:=by rw [Cp];exact hlt
  rw [h'] at h;cases h
 omega
theorem Q51 (s:List UInt8) (hs:s.length≤maxLen):Tot (fun N=>Zs N s) (Qlp s):=by
 refine TotP.tot ?_;refine TotP.bind (Qgq s hs) (fun v hv => .ret ?_);rw [Jm];exact hv
def Q02 (s:List UInt8):Bool:=decide (s ≠ [])&&Q2v s && !Qlp s
theorem Q3j (s:List UInt8) (hs:s.length≤maxLen):Tot (fun N=>V5 N s) (Q02 s):=by
 refine TotP.tot ?_;refine TotP.bindE (Qec s) ?_;refine TotP.cond (fun h=>?_) (fun h=>?_)
 ·refine TotP.bindE (Q51 s hs) (.ret ?_);unfold Q02;rw [h];rfl
 exact .ret (by unfold Q02;rw [h];rfl)
end
end Go.Av
namespace Go.Av
noncomputable section
def Any {R:Type} (f:Nat->Option R):Prop:=TotP f fun _=>True
theorem Qbb (n size:Int):TotP (fun N=>Qt N n size) (fun l=>l.length≤16):=by
 show TotP (fun N=>cond (Q2 .leq size 0) _ _) _;rw [Vz];refine TotP.cond (fun _ => .ret (by simp)) (fun h=>?_)
 have h:0<size:=by have:=Ac h;omega
 obtain ⟨m,hm,hm16⟩:∃ m:Nat,ifB (decide (16<size)) (16:Int) size=(m:Int)∧m≤16:=by
  by_cases g:16<size
  ·exact ⟨16,by rw [Ad g];rfl,by omega⟩
  exact ⟨size.toNat,by rw [Ab g];show size=_;omega,by omega⟩
 rw [hm];refine TotP.chk (by simp only [Lc,Ag];omega) ?_;have:=Q5w (L:=fun N n' (p:Int×List Int)=>Yu N n size n' p.1 p.2) (Q:=fun l:List UInt8=>l.length≤16) (fun p=>∃ i:Nat,p.1=(i:Int)∧i≤m∧p.2.length=m) (fun p=>m - p.1.toNat)
  ?_ (0,List.replicate ((m:Int).toNat) 0) ⟨0,rfl,by omega,by simp⟩
 ·exact this
 rintro ⟨s,l⟩ ⟨i,hs,hi,hl⟩
 simp only at hs hl
 subst hs;show Stp _ _ _ (fun N n'=>cond (Q2 .lss (i:Int) (ifB (decide (16<size)) 16 size)) _ _);rw [hm,Qs,Qs];refine Stp.cond (fun h=>?_) (fun h=>?_)
 ·have h:=Aa h
  have e1:wrap .i64 ((i:Int)+1)=((i+1:Nat):Int):=by rw [w64 _ (by omega)];omega
  refine Stp.cond (fun h8=>?_) (fun h8=>?_)
  ·have h8:=Aa h8;refine Stp.chk ?_ ?_
   ·rw [w64 (8 * (i:Int)) (by omega)]
    have:i=0∨i=1∨i=2∨i=3∨i=4∨i=5∨i=6∨i=7:=by omega
    rcases this with rfl | rfl | rfl | rfl | rfl | rfl | rfl | rfl<;>rfl
   have e2:wrap .i64 (wrap .i64 ((m:Int) - 1) - (i:Int))=((m - 1 - i:Nat):Int):=by rw [w64 ((m:Int) - 1) (by omega),w64 _ (by omega)];omega
   rw [e1,e2];refine Stp.idx (Zo (show m - 1 - i<l.length by omega)) ?_;refine Stp.go (L:=fun N n' (p:Int×List Int)=>Yu N n size n' p.1 p.2) (_,_) ⟨⟨i+1,rfl,by omega,by simp [hl]⟩,?_⟩;simp only [Lu];omega
  rw [e1];refine Stp.go (L:=fun N n' (p:Int×List Int)=>Yu N n size n' p.1 p.2) (_,_) ⟨⟨i+1,rfl,by omega,hl⟩,?_⟩;simp only [Lu];omega
 exact Stp.ret (by simp [hl];exact hm16)
theorem Qqx (h:Q0a) (hh:h.Node.length≤300):TotP (fun N=>Xu N h) (fun l=>l.length≤400):=by
 refine TotP.bind (Qbb _ _) (fun a ha=>?_);refine TotP.bind (Qbb _ _) (fun b hb=>?_);refine TotP.chk (by rw [Ls];omega) ?_;refine TotP.bind (Qbb _ _) (fun c hc=>?_);refine TotP.chk (by rw [Ls];simp;omega) ?_;refine TotP.chk (by rw [Ls];simp;omega) (.ret ?_)
 simp;omega
theorem Qpq (h:Q0a):Any (fun N=>Ud N h):=by
 refine TotP.bind (V:=fun _=>True) ?_ (fun _ _ => .ret trivial);show TotP (fun N=>cond (Q2 .geq h.Radius 0) _ _) _;refine TotP.cond (fun _=>TotP.cond (fun _=>TotP.cond (fun _ => .ret trivial) (fun _ => .ret trivial)) (fun _ => .ret trivial)) (fun _ => .ret trivial)
section
variable (e:Jh) (lm:Vt) (h1:e.Hops.length≤8) (h2:∀ h∈e.Hops,h.Node.length≤300)
include h1 h2
end
end
end Go.Av
namespace Go.Av
noncomputable section
section
variable {R S T:Type} {L:Nat->Nat->S->Option R} {P:S->Prop} {Q:R->Prop}
end
end
end Go.Av
namespace Go.Av
noncomputable section
structure OkE (e:Jh):Prop where
 topic:e.Topic.length≤maxLen
 props:e.Props.length≤maxLen
 filters:e.Packet.Filters.length≤maxLen
 pprops:e.Packet.Props.length≤maxLen
 wprops:e.Packet.Will.Props.length≤maxLen
structure LightE (e:Jh):Prop where
 topic:e.Topic.length≤2000
 payload:e.Payload.length≤2000
 props:e.Props.length≤30∧∀ p∈e.Props,p.Text.length≤300∧p.Value.length≤300
 hops:e.Hops.length≤8∧∀ h∈e.Hops,h.Node.length≤300
def Lv (o:Option Int) (P:Prop):Prop:=∃ v,o=some v∧(v=0->P)
theorem Lv.of {v:Int} {P:Prop} (h:P):Lv (some v) P:=⟨v,rfl,fun _=>h⟩
theorem Lv.no {v:Int} {P:Prop} (h:v≠0):Lv (some v) P:=⟨v,rfl,fun e=>absurd e h⟩
theorem Lv.cond {b:Bool} {x y:Option Int} {P:Prop} (h1:Lv x P) (h2:Lv y P):Lv (cond b x y) P:=by cases b<;>assumption
structure PubE (e:Jh):Prop where
 proto:e.Proto=1∨e.Proto=2∨e.Proto=3∨e.Proto=4
 kind:e.Kind=1
 qos:e.QoS = -1∨e.QoS=0∨e.QoS=1∨e.QoS=2
end
end Go.Av
namespace Go.Av
noncomputable section
open Go.Proofs
set_option maxRecDepth 100000
end
end Go.Av
namespace Go.Av
noncomputable section
open Go.Proofs
set_option maxRecDepth 100000
end
end Go.Av
namespace Go.Av
noncomputable section
open Go.Proofs
set_option maxRecDepth 100000
end
end Go.Av
namespace Go.Av
noncomputable section
open Go.Proofs
set_option maxRecDepth 100000
end
end Go.Av
namespace Go.Av
noncomputable section
open Go.Proofs
set_option maxRecDepth 100000
end
end Go.Av
namespace Go.Av
noncomputable section
open Go.Proofs
set_option maxRecDepth 100000
end
end Go.Av
namespace Go.Av
noncomputable section
open Go.Proofs
set_option maxRecDepth 100000
structure FB (f:Q0f):Prop where
 fine:∀ x∈f.Values,Fine x
 sz:Z0.szs f.Values<160000000
 wgt:Z0.wgts f.Values<4000000000
theorem FB.len {f:Q0f} (h:FB f):f.Values.length<160000000:=by
 have h1:=Z0.szs_len f.Values;have h2:=h.sz;omega
end
end Go.Av
namespace Go.Av
noncomputable section
open Go.Proofs
set_option maxRecDepth 100000
theorem Q0f.ext' {a b:Q0f} (h1:a.Type'=b.Type') (h2:a.Channel=b.Channel) (h3:a.Ext=b.Ext) (h4:a.Values=b.Values):a=b:=by cases a;cases b;simp_all
noncomputable instance:DecidableEq Q0f:=fun a b=>decidable_of_iff (a.Type'=b.Type'∧a.Channel=b.Channel∧a.Ext=b.Ext∧a.Values=b.Values) ⟨fun h=>Q0f.ext' h.1 h.2.1 h.2.2.1 h.2.2.2,fun h=>by rw [h];exact ⟨rfl,rfl,rfl,rfl⟩⟩
end
end Go.Av
namespace Go.Av
noncomputable section
theorem Uz (x y:List UInt8):Jz .eql x y=decide (x=y):=by
 show (x == y)=_
 by_cases h:x=y
 ·rw [h];simp
 rw [Ab h];exact beq_eq_false_iff_ne.2 h
theorem Q5j (x y:List UInt8):Jz .neq x y=decide (x≠y):=by
 show (!(x == y))=_
 by_cases h:x=y
 ·rw [h];simp
 rw [Ad h,beq_eq_false_iff_ne.2 h];rfl
section
variable {T:Type}
end
structure Z3c (p:Xq):Prop where
 codes:p.Codes.length≤maxLen
 filters:p.Filters.length≤maxLen
 props:p.Props.length≤maxLen
 wprops:p.Will.Props.length≤maxLen
end
end Go.Av
namespace Go.Av
noncomputable section
theorem Q2c (n:Int) (size:Nat) (h0:1≤size) (h16:size≤16):TotP (fun N=>Qt N n (size:Int)) (fun l=>l.length=size):=by
 show TotP (fun N=>cond (Q2 .leq (size:Int) 0) _ _) _;rw [Vz];refine TotP.cond (fun h=>by have:=Aa h;omega) (fun _=>?_)
 have hm:ifB (decide (16<(size:Int))) (16:Int) (size:Int)=(size:Int):=by rw [Ab (by omega)];rfl
 rw [hm];refine TotP.chk (by simp only [Lc,Ag];omega) ?_;have:=Q5w (L:=fun N n' (p:Int×List Int)=>Yu N n (size:Int) n' p.1 p.2) (Q:=fun l:List UInt8=>l.length=size) (fun p=>∃ i:Nat,p.1=(i:Int)∧i≤size∧p.2.length=size) (fun p=>size - p.1.toNat)
  ?_ (0,List.replicate ((size:Int).toNat) 0) ⟨0,rfl,by omega,by simp⟩
 ·exact this
 rintro ⟨s,l⟩ ⟨i,hs,hi,hl⟩
 simp only at hs hl
 subst hs;show Stp _ _ _ (fun N n'=>cond (Q2 .lss (i:Int) (ifB (decide (16<(size:Int))) 16 (size:Int))) _ _);rw [hm,Qs,Qs];refine Stp.cond (fun h=>?_) (fun h=>?_)
 ·have h:=Aa h
  have e1:wrap .i64 ((i:Int)+1)=((i+1:Nat):Int):=by rw [w64 _ (by omega)];omega
  refine Stp.cond (fun h8=>?_) (fun h8=>?_)
  ·have h8:=Aa h8;refine Stp.chk ?_ ?_
   ·rw [w64 (8 * (i:Int)) (by omega)]
    have:i=0∨i=1∨i=2∨i=3∨i=4∨i=5∨i=6∨i=7:=by omega
    rcases this with rfl | rfl | rfl | rfl | rfl | rfl | rfl | rfl<;>rfl
   have e2:wrap .i64 (wrap .i64 ((size:Int) - 1) - (i:Int))=((size - 1 - i:Nat):Int):=by rw [w64 ((size:Int) - 1) (by omega),w64 _ (by omega)];omega
   rw [e1,e2];refine Stp.idx (Zo (show size - 1 - i<l.length by omega)) ?_;refine Stp.go (L:=fun N n' (p:Int×List Int)=>Yu N n (size:Int) n' p.1 p.2) (_,_) ⟨⟨i+1,rfl,by omega,by simp [hl]⟩,?_⟩;simp only [Lu];omega
  rw [e1];refine Stp.go (L:=fun N n' (p:Int×List Int)=>Yu N n (size:Int) n' p.1 p.2) (_,_) ⟨⟨i+1,rfl,by omega,hl⟩,?_⟩;simp only [Lu];omega
 exact Stp.ret (by simp [hl])
theorem Qi5 {R:Type} {f:Nat->Option R} {r:R} (h:Tot f r):Any f:=⟨r,trivial,h⟩
theorem TotP.any {R:Type} {f:Nat->Option R} {Q:R->Prop} (h:TotP f Q):Any f:=h.mono fun _ _=>trivial
theorem Qvz {k:Int} (h:0≤k∧k≤18446744073709551615):wrap .u64 k=k:=IntWalk.u64_in k h
structure OkP (l:List Q8s):Prop where
 len:l.length≤30
 txt:∀ p∈l,p.Text.length≤maxLen
structure Qky (p:Xq):Prop where
 l:Z3c p
 props:OkP p.Props
 wprops:OkP p.Will.Props
 topic:p.Topic.length≤2000
 payload:p.Payload.length≤2000
 client:p.Client.length≤2000
 user:p.User.length≤2000
 pass:p.Pass.length≤2000
 wtopic:p.Will.Topic.length≤2000
 wpayload:p.Will.Payload.length≤2000
 codes:p.Codes.length≤30
 filters:p.Filters.length≤30∧∀ f∈p.Filters,f.Topic.length≤2000
section
variable {p:Xq} (h:Qky p)
include h
end
end
end Go.Av
namespace Go.Av
noncomputable section
theorem Qb7:∀ (l:List UInt8) (c:UInt8) (n:Nat),Q3e l c n≤n+l.length
 | [],_,n=>Li _
 | b::l,c,n=>by
  unfold Q3e;split
  ·have:=Qb7 l c (n+1);simp only [Ma];omega
  have:=Qb7 l c n;simp only [Ma];omega
theorem Qb2:∀ (l:List UInt8) (c:UInt8) (i:Nat),Q9a l c i = -1∨∃ k:Nat,Q9a l c i=(k:Int)∧i≤k∧k<i+l.length
 | [],_,i => .inl rfl
 | b::l,c,i=>by
  unfold Q9a;split
  ·exact .inr ⟨i,rfl,Li _,by simp⟩
  rcases Qb2 l c (i+1) with h | ⟨k,h1,h2,h3⟩
  ·exact .inl h
  exact .inr ⟨k,h1,by omega,by simp only [Ma];omega⟩
def Quf (s:List UInt8) (N n:Nat) (p:List UInt8×Int×List (List UInt8)):Option (List (List UInt8)):=Xh N s n p.1 p.2.1 p.2.2
theorem Qn0 (s:List UInt8) (hs:s.length≤70000):TotP (fun N=>Uu N s) (fun l=>l.length≤70001∧∀ x∈l,x.length≤70000):=by
 unfold Uu;refine TotP.cond (fun h=>by rw [Uz] at h;exact absurd (Aa h) (by simp)) (fun _=>?_);obtain ⟨c,hcd⟩:∃ c,Q3e s (UInt8.ofNat (Int.toNat 47)) 0=c:=⟨_,rfl⟩;have hc:=Qb7 s (UInt8.ofNat (Int.toNat 47)) 0;rw [hcd] at hc ⊢;have e1:wrap .i64 ((s.length:Int)+1)=(s.length:Int)+1:=w64 _ (by omega);have e2:wrap .i64 ((c:Int)+1)=(c:Int)+1:=w64 _ (by omega)
 have hn:(ifB (decide (wrap .i64 ((s.length:Int)+1)<wrap .i64 ((c:Int)+1))) (wrap .i64 ((s.length:Int)+1)) (wrap .i64 ((c:Int)+1)))=((c+1:Nat):Int):=by
  rw [e1,e2,Ab (by omega)];show (c:Int)+1=_;omega
 have hm:wrap .i64 (((c+1:Nat):Int) - 1)=(c:Int):=by rw [w64 _ (by omega)];omega
 rw [hn];refine TotP.chk (by simp only [Lc,Ag];omega) ?_;have:=Q5w (L:=Quf s) (Q:=fun l=>l.length≤70001∧∀ x∈l,x.length≤70000) (fun p=>p.1.length≤s.length∧∃ i:Nat,p.2.1=(i:Int)∧i≤c∧p.2.2.length=c+1∧∀ x∈p.2.2,x.length≤70000) (fun p=>c - p.2.1.toNat)
  ?_ (s,0,List.replicate (((c+1:Nat):Int).toNat) []) ⟨Li _,0,rfl,by omega,by simp,fun x hx=>by simp at hx;simp [hx]⟩
 ·exact this
 rintro ⟨t,j,l⟩ ⟨ht,i,hi,hic,hl,hx⟩
 simp only at ht hi hl hx
 subst hi
 have hset:∀ (y:List UInt8),y.length≤70000->∀ x∈l.set (Int.toNat (i:Int)) y,x.length≤70000:=fun y hy x hxm=>by
  rcases Bk hxm with h | h
  ·exact hx x h
  rw [h];exact hy
 have ei:wrap .i64 ((i:Int)+1)=((i+1:Nat):Int):=by rw [w64 _ (by omega)];omega
 have fin:Stp (Quf s) (fun p=>(p.1.length≤s.length∧∃ i:Nat,p.2.1=(i:Int)∧i≤c∧p.2.2.length=c+1∧∀ x∈p.2.2,x.length≤70000)∧c - p.2.1.toNat<c - (i:Int).toNat) (fun l=>l.length≤70001∧∀ x∈l,x.length≤70000)
   (fun (_:Nat) (_:Nat)=>(idx (l:List (List UInt8)) (i:Int)).bind fun _=>cond (decide (0≤(wrap .i64 ((i:Int)+1)))) (cond (Nat.ble 0 ((wrap .i64 ((i:Int)+1)).toNat)&&Nat.ble ((wrap .i64 ((i:Int)+1)).toNat) l.length) (some ((((l:List (List UInt8)).set (Int.toNat (i:Int)) t):List (List UInt8)).take ((wrap .i64 ((i:Int)+1)).toNat))) none) none):=by
  rw [ei];refine Stp.idx (Zo (show i<l.length by omega)) ?_;refine Stp.chk (by rw [Ag];omega) ?_;refine Stp.chk (by simp only [Lc,Ls,Lu];omega) ?_;exact Stp.ret ⟨by rw [Mi,Mw];omega,fun x hxm=>hset t (by omega) x (De hxm)⟩
 show Stp _ _ _ (fun N n=>cond (Q2 .lss (i:Int) (wrap .i64 ((ifB (decide (wrap .i64 ((s.length:Int)+1)<wrap .i64 ((Q3e s (UInt8.ofNat (Int.toNat 47)) 0:Int)+1))) (wrap .i64 ((s.length:Int)+1)) (wrap .i64 ((Q3e s (UInt8.ofNat (Int.toNat 47)) 0:Int)+1))) - 1))) _ _);rw [hcd,hn,hm,Qs];refine Stp.cond (fun h=>?_) (fun _=>fin);have h:=Aa h
 have go:∀ (t' y:List UInt8),t'.length≤s.length->y.length≤70000->Stp (Quf s) (fun p=>(p.1.length≤s.length∧∃ i:Nat,p.2.1=(i:Int)∧i≤c∧p.2.2.length=c+1∧∀ x∈p.2.2,x.length≤70000)∧c - p.2.1.toNat<c - (i:Int).toNat) (fun l=>l.length≤70001∧∀ x∈l,x.length≤70000)
   (fun N n=>Xh N s n t' (wrap .i64 ((i:Int)+1)) (l.set (Int.toNat (i:Int)) y)):=fun t' y h1 h2=>by
  rw [ei];exact Stp.go (L:=Quf s) (t',((i+1:Nat):Int),l.set (Int.toNat (i:Int)) y) ⟨⟨h1,i+1,rfl,by omega,by rw [Mw];exact hl,hset y h2⟩,by simp only [Lu];omega⟩
 refine Stp.cond (fun h2=>?_) (fun _=>?_)
 ·rw [Uz] at h2;have h2:=Aa h2;refine Stp.idx (Zo (show i<l.length by omega)) ?_;refine Stp.chk (by rw [← h2];rfl) ?_;exact go _ _ (by simp only [Nc,Mi];omega) (by simp)
 refine Stp.bind (f:=fun N=>Zg N t 47) (V:=fun v=>v=Q9a t (UInt8.ofNat (Int.toNat 47)) 0) ⟨_,rfl,.of fun _=>rfl⟩ (fun v hv=>?_);rw [Qs]
 rcases Qb2 t (UInt8.ofNat (Int.toNat 47)) 0 with h3 | ⟨k,h3,_,h4⟩
 ·rw [hv,h3];exact Stp.cond (fun _=>fin) (fun h=>nomatch h)
 rw [hv,h3,Ab (by omega)]
 have k0:wrap .i64 ((k:Int)+0)=(k:Int):=by rw [w64 _ (by omega)];omega
 have k1:wrap .i64 ((k:Int)+1)=((k+1:Nat):Int):=by rw [w64 _ (by omega)];omega
 refine Stp.cond (fun h=>nomatch h) (fun _=>?_);rw [k0,k1];refine Stp.chk (by rw [Ag];omega) ?_;refine Stp.chk (by simp only [Lc,Ls,Lu];omega) ?_;refine Stp.idx (Zo (show i<l.length by omega)) ?_;refine Stp.chk (by rw [Ag];omega) ?_;refine Stp.chk (by simp only [Lc,Ls,Lu];omega) ?_;exact go _ _ (by simp only [Nc,Mi];omega) (by simp only [Nc,Mi];omega)
end
end Go.Av
namespace Go.Av
noncomputable section
theorem ml7:70000≤maxLen:=by unfold maxLen;decide
theorem Qlo (l:List (List UInt8)) (h1:l.length≤70001) (h2:∀ x∈l,x.length≤70000):Any (fun N=>Um N l):=by
 have hm:=ml7
 have hw:∀ s,Any (fun N=>Ue N s):=fun s=>by
  unfold Ue
  repeat' first
   | exact TotP.ret trivial
   | refine TotP.cond (fun _=>?_) (fun _=>?_)
 unfold Um;refine Q4a (L:=fun N n i=>Qv N l n i) l.length (fun _=>True) (fun i hi _=>?_) (fun _=>?_) trivial
 ·show Stp _ _ _ (fun N n=>cond (Q2 .lss (i:Int) ((Qi cS l).length:Int)) _ _);rw [Qy,Qs];refine Stp.cond (fun _=>?_) (fun _=>Stp.ret trivial);refine Stp.idx (Zo hi) ?_;have hx:=h2 _ (Mn hi)
  have hg:Stp (fun N n i=>Qv N l n i) (fun s=>s=((i+1:Nat):Int)∧True) (fun _=>True) (fun N n=>Qv N l n (wrap .i64 ((i:Int)+1))):=by
   rw [w64 _ (by omega)];exact Stp.go (L:=fun N n i=>Qv N l n i) _ ⟨by omega,trivial⟩
  have hc:Any (fun N=>Zs N l[i]):=Qi5 (Q51 _ (by omega))
  have ht:Stp (fun N n i=>Qv N l n i) (fun s=>s=((i+1:Nat):Int)∧True) (fun _=>True) (fun N n=>(Ue N l[i]).bind fun v=>cond (!v) ((Zs N l[i]).bind fun w=>cond w (some false) (Qv N l n (wrap .i64 ((i:Int)+1)))) (Qv N l n (wrap .i64 ((i:Int)+1)))):=by
   refine Stp.bind (hw _) (fun _ _=>Stp.cond (fun _=>?_) (fun _=>hg));exact Stp.bind hc (fun _ _=>Stp.cond (fun _=>Stp.ret trivial) (fun _=>hg))
  exact Stp.cond (fun _=>Stp.cond (fun _=>Stp.ret trivial) (fun _=>ht)) (fun _=>ht)
 show Stp _ _ _ (fun N n=>cond (Q2 .lss (l.length:Int) ((Qi cS l).length:Int)) _ _);rw [Qy,Qs,Ab (by omega)];exact Stp.ret trivial
theorem Qmg (s:List UInt8) (hs:s.length≤70000):Any (fun N=>Wc N s):=by
 unfold Wc;refine TotP.bindE (Qec s) ?_;refine TotP.cond (fun _=>?_) (fun _ => .ret trivial);refine TotP.bind (Qn0 s hs) (fun l hl=>?_);exact TotP.bind (Qlo l hl.1 hl.2) (fun _ _ => .ret trivial)
section
variable {p:Xq} (h:Qky p)
include h
end
end
end Go.Av
namespace Go.Av
noncomputable section
theorem Qro (n:Int) (h:0≤n∧n<18446744073709551616) (w:Nat) (hw:w≤8):Tot (fun N=>Qt N (wrap .u64 n) (w:Int)) (Q12 n.toNat w):=by
 refine ⟨11,fun N hN=>?_⟩;have:=Qau N n.toNat w (by omega) hw (by omega)
 rwa [show ((n.toNat:Nat):Int)=wrap .u64 n by rw [Qvz (by omega)];omega] at this
set_option maxRecDepth 20000 in
theorem bN {x:Bool} (h:(!x)=true):x=false:=by cases x;rfl;cases h
theorem bP {x:Bool} (h:(!x)=false):x=true:=by cases x;cases h;rfl
def vb (n:Nat):List UInt8:=if n<128 then [UInt8.ofNat n] else UInt8.ofNat (n % 128+128)::vb (n / 128)
termination_by n
decreasing_by omega
end
end Go.Av
namespace Go.Av
noncomputable section
open Go.Proofs
theorem Z7p (x:Nat) (h:x≤9223372036854775807):wrap .i64 (x:Int)=x:=w64 _ (by omega)
theorem Qic (N:Nat) (s:List UInt8) (j:Nat):Zz N s (j:Int)=some (if goes s j then (((at8 s j - 128:Nat):Int),true) else (0,false)):=by
 unfold Zz;rw [Jm]
 by_cases hj:j<s.length
 ·have hb:=Ej s[j];rw [Ab (show ¬ ((j:Int)≥(s.length:Int)) by omega),Ah,Zo hj,Lf,Qs,Lf,U3,Lf];have e:=Q6h hj
  by_cases h1:at8 s j<128
  ·rw [Ad (by omega),Ai,Ae (fun h=>by have:=h.2.1;omega)]
  rw [Ab (by omega),Ah]
  by_cases h2:at8 s j<192
  ·rw [Ab (by omega),Ah,Af ⟨hj,by omega,h2⟩,w64 ((s[j]).toNat:Int) (by omega),w64 _ (by omega)]
   congr 2;omega
  rw [Ad (by omega),Ai,Ae (fun h=>h2 h.2.2)]
 rw [Ad (show ((j:Int)≥(s.length:Int)) by omega),Ai,Ae (fun h=>hj h.1)]
theorem Z1u (N:Nat) (s:List UInt8) (i n x k:Nat) (hk:k<2) (hx:x<1099511627776) (hi:i≤4611686018427387904):Z6 N s (i:Int) (n+1) (x:Int) (k:Int) =
  if goes s (i+k) then Z6 N s (i:Int) n ((64 * x+(at8 s (i+k) - 128):Nat):Int) ((k+1:Nat):Int) else some (0,0):=by
 have hb:=Q65 s (i+k);rw [Z6,Qs,Ad (by omega),Ai,show wrap .i64 ((i:Int)+(k:Int))=((i+k:Nat):Int) by rw [w64 _ (by omega)];omega,Qic,Lf]
 by_cases g:goes s (i+k)
 ·rw [Af g,Af g];show Z6 N s (i:Int) n (wrap .i64 (wrap .i64 (64 * (x:Int))+((at8 s (i+k) - 128:Nat):Int))) (wrap .i64 ((k:Int)+1))=_;rw [w64 (64 * (x:Int)) (by omega),w64 _ (by omega),w64 _ (by omega)]
  congr 1
 rw [Ae g,Ae g];rfl
theorem Z03 (N:Nat) (s:List UInt8) (i n x:Nat):Z6 N s (i:Int) (n+1) (x:Int) ((2:Nat):Int)=if 128≤x∧Q7y x then some ((x:Int),2) else some (0,0):=by
 rw [Z6,Qs,Ab (by omega),Ah,Qs,U3,Jm,Vz];unfold Q7y
 by_cases h1:x<128
 ·rw [Ad (by omega),Ai,Ae (by omega)]
 rw [Ab (show ¬ ((x:Int)<128) by omega),Ah]
 by_cases h2:x≤1114111
 ·rw [Ab (show ¬ ((x:Int)>1114111) by omega),Ah]
  by_cases h3:55296≤x
  ·rw [Ad (show ((x:Int)≥55296) by omega),Ai]
   by_cases h4:x≤57343
   ·rw [Ad (show ((x:Int)≤57343) by omega),Ai,Ae (by omega)]
   rw [Ab (show ¬ ((x:Int)≤57343) by omega),Ah,Af (by omega)]
  rw [Ab (show ¬ ((x:Int)≥55296) by omega),Ah,Af (by omega)]
 rw [Ad (show ((x:Int)>1114111) by omega),Ai,Ae (by omega)]
theorem Z0o (N:Nat) (s:List UInt8) (i n x k:Nat) (hk:k<3) (hx:x<1099511627776) (hi:i≤4611686018427387904):Z5 N s (i:Int) (n+1) (x:Int) (k:Int) =
  if goes s (i+k) then Z5 N s (i:Int) n ((64 * x+(at8 s (i+k) - 128):Nat):Int) ((k+1:Nat):Int) else some (0,0):=by
 have hb:=Q65 s (i+k);rw [Z5,Qs,Ad (by omega),Ai,show wrap .i64 ((i:Int)+(k:Int))=((i+k:Nat):Int) by rw [w64 _ (by omega)];omega,Qic,Lf]
 by_cases g:goes s (i+k)
 ·rw [Af g,Af g];show Z5 N s (i:Int) n (wrap .i64 (wrap .i64 (64 * (x:Int))+((at8 s (i+k) - 128:Nat):Int))) (wrap .i64 ((k:Int)+1))=_;rw [w64 (64 * (x:Int)) (by omega),w64 _ (by omega),w64 _ (by omega)]
  congr 1
 rw [Ae g,Ae g];rfl
theorem Z01 (N:Nat) (s:List UInt8) (i n x:Nat):Z5 N s (i:Int) (n+1) (x:Int) ((3:Nat):Int)=if 2048≤x∧Q7y x then some ((x:Int),3) else some (0,0):=by
 rw [Z5,Qs,Ab (by omega),Ah,Qs,U3,Jm,Vz];unfold Q7y
 by_cases h1:x<2048
 ·rw [Ad (by omega),Ai,Ae (by omega)]
 rw [Ab (show ¬ ((x:Int)<2048) by omega),Ah]
 by_cases h2:x≤1114111
 ·rw [Ab (show ¬ ((x:Int)>1114111) by omega),Ah]
  by_cases h3:55296≤x
  ·rw [Ad (show ((x:Int)≥55296) by omega),Ai]
   by_cases h4:x≤57343
   ·rw [Ad (show ((x:Int)≤57343) by omega),Ai,Ae (by omega)]
   rw [Ab (show ¬ ((x:Int)≤57343) by omega),Ah,Af (by omega)]
  rw [Ab (show ¬ ((x:Int)≥55296) by omega),Ah,Af (by omega)]
 rw [Ad (show ((x:Int)>1114111) by omega),Ai,Ae (by omega)]
theorem Qv4 (N:Nat) (s:List UInt8) (i n x k:Nat) (hk:k<4) (hx:x<1099511627776) (hi:i≤4611686018427387904):Z8 N s (i:Int) (n+1) (x:Int) (k:Int) =
  if goes s (i+k) then Z8 N s (i:Int) n ((64 * x+(at8 s (i+k) - 128):Nat):Int) ((k+1:Nat):Int) else some (0,0):=by
 have hb:=Q65 s (i+k);rw [Z8,Qs,Ad (by omega),Ai,show wrap .i64 ((i:Int)+(k:Int))=((i+k:Nat):Int) by rw [w64 _ (by omega)];omega,Qic,Lf]
 by_cases g:goes s (i+k)
 ·rw [Af g,Af g];show Z8 N s (i:Int) n (wrap .i64 (wrap .i64 (64 * (x:Int))+((at8 s (i+k) - 128:Nat):Int))) (wrap .i64 ((k:Int)+1))=_;rw [w64 (64 * (x:Int)) (by omega),w64 _ (by omega),w64 _ (by omega)]
  congr 1
 rw [Ae g,Ae g];rfl
theorem Qzy (N:Nat) (s:List UInt8) (i n x:Nat):Z8 N s (i:Int) (n+1) (x:Int) ((4:Nat):Int)=if 65536≤x∧Q7y x then some ((x:Int),4) else some (0,0):=by
 rw [Z8,Qs,Ab (by omega),Ah,Qs,U3,Jm,Vz];unfold Q7y
 by_cases h1:x<65536
 ·rw [Ad (by omega),Ai,Ae (by omega)]
 rw [Ab (show ¬ ((x:Int)<65536) by omega),Ah]
 by_cases h2:x≤1114111
 ·rw [Ab (show ¬ ((x:Int)>1114111) by omega),Ah]
  by_cases h3:55296≤x
  ·rw [Ad (show ((x:Int)≥55296) by omega),Ai]
   by_cases h4:x≤57343
   ·rw [Ad (show ((x:Int)≤57343) by omega),Ai,Ae (by omega)]
   rw [Ab (show ¬ ((x:Int)≤57343) by omega),Ah,Af (by omega)]
  rw [Ab (show ¬ ((x:Int)≥55296) by omega),Ah,Af (by omega)]
 rw [Ad (show ((x:Int)>1114111) by omega),Ai,Ae (by omega)]
def ptF (q:Nat×Nat):Int×Int:=if q.1=65533∧q.2=1 then (0,0) else ((q.1:Int),(q.2:Int))
theorem Qg2 {c w:Nat} (h:¬ (c=65533∧w=1)):ptF (c,w)=((c:Int),(w:Int)):=Ae h
theorem Q4b:ptF (65533,1)=(0,0):=Af ⟨rfl,rfl⟩
def ptR (s:List UInt8) (i:Nat):Int×Int:=ptF (Q48 s i)
theorem Qtl (s:List UInt8) (i:Nat) (hi:i<s.length) (hs:s.length≤4611686018427387904) (M:Nat):Xw (M+5) s (i:Int)=some (ptR s i):=by
 have hb:=Q65 s i;have hb1:=Q65 s (i+1);have hb2:=Q65 s (i+(1+1));have e:=Q6h hi
 have hw:wrap .i64 ((s[i]).toNat:Int)=(at8 s i:Int):=by rw [← e];exact Z7p _ (by omega)
 unfold Xw;rw [Zo hi,Lf,hw];simp only [Qs,Jm];unfold ptR Q48
 by_cases c1:at8 s i<128
 ·rw [Ad (by omega),Ai,Af c1,Qg2 (by omega)];rfl
 rw [Ab (show ¬ ((at8 s i:Int)<128) by omega),Ah,Ae c1]
 by_cases c2:at8 s i<192
 ·rw [Ab (show ¬ ((at8 s i:Int)≥192) by omega),Ah,Ab (show ¬ ((at8 s i:Int)≥224) by omega),Ah,Ab (show ¬ ((at8 s i:Int)≥240) by omega),Ah,
   Ae (by omega),Ae (by omega),Ae (by omega),Q4b]
 rw [Ad (show ((at8 s i:Int)≥192) by omega),Ai]
 by_cases c3:at8 s i<224
 ·rw [Ad (show ((at8 s i:Int)<224) by omega),Ai,Ae (c:=224≤at8 s i∧_) (by omega),Ae (c:=240≤at8 s i∧_) (by omega)]
  have h0:wrap .i64 ((at8 s i:Int) - 192)=((at8 s i - 192:Nat):Int):=by rw [w64 _ (by omega)];omega
  rw [h0,show (1:Int)=((1:Nat):Int) from rfl,Z1u _ _ _ _ _ _ (by omega) (by omega) (by omega)]
  by_cases g1:goes s (i+1)
  ·rw [Af g1,show 1+1=2 from rfl,Z03];have hg:=g1.2
   by_cases c4:128≤64 * (at8 s i - 192)+(at8 s (i+1) - 128)
   ·rw [Af ⟨c4,by unfold Q7y;omega⟩,Af ⟨by omega,c3,g1,c4⟩,Qg2 (by omega)];rfl
   rw [Ae (fun h=>c4 h.1),Ae (fun h=>c4 h.2.2.2),Q4b]
  rw [Ae g1,Ae (fun h=>g1 h.2.2.1),Q4b]
 rw [Ab (show ¬ ((at8 s i:Int)<224) by omega),Ah,Ad (show ((at8 s i:Int)≥224) by omega),Ai,Ae (c:=192≤at8 s i∧_) (by omega)]
 by_cases c5:at8 s i<240
 ·rw [Ad (show ((at8 s i:Int)<240) by omega),Ai,Ae (c:=240≤at8 s i∧_) (by omega)]
  have h0:wrap .i64 ((at8 s i:Int) - 224)=((at8 s i - 224:Nat):Int):=by rw [w64 _ (by omega)];omega
  rw [h0,show (1:Int)=((1:Nat):Int) from rfl,Z0o _ _ _ _ _ _ (by omega) (by omega) (by omega)]
  by_cases g1:goes s (i+1)
  ·have hg1:=g1.2;rw [Af g1,Z0o _ _ _ _ _ _ (by omega) (by omega) (by omega)]
   by_cases g2:goes s (i+2)
   ·have hg2:=g2.2;rw [Af g2,show 1+1+1=3 from rfl,Z01]
    by_cases c4:2048≤64 * (64 * (at8 s i - 224)+(at8 s (i+1) - 128))+(at8 s (i+2) - 128)∧Q7y (64 * (64 * (at8 s i - 224)+(at8 s (i+1) - 128))+(at8 s (i+2) - 128))
    ·rw [Af c4,Af ⟨by omega,c5,g1,g2,c4⟩,Qg2 (by omega)];rfl
    rw [Ae c4,Ae (fun h=>c4 h.2.2.2.2),Q4b]
   rw [Ae g2,Ae (fun h=>g2 h.2.2.2.1),Q4b]
  rw [Ae g1,Ae (fun h=>g1 h.2.2.1),Q4b]
 rw [Ab (show ¬ ((at8 s i:Int)<240) by omega),Ah,Ad (show ((at8 s i:Int)≥240) by omega),Ai,Ae (c:=224≤at8 s i∧_) (by omega)]
 by_cases c6:at8 s i<248
 ·rw [Ad (show ((at8 s i:Int)<248) by omega),Ai]
  have h0:wrap .i64 ((at8 s i:Int) - 240)=((at8 s i - 240:Nat):Int):=by rw [w64 _ (by omega)];omega
  rw [h0,show (1:Int)=((1:Nat):Int) from rfl,Qv4 _ _ _ _ _ _ (by omega) (by omega) (by omega)]
  by_cases g1:goes s (i+1)
  ·have hg1:=g1.2;rw [Af g1,Qv4 _ _ _ _ _ _ (by omega) (by omega) (by omega)]
   by_cases g2:goes s (i+2)
   ·have hg2:=g2.2;rw [Af g2,Qv4 _ _ _ _ _ _ (by omega) (by omega) (by omega)]
    by_cases g3:goes s (i+3)
    ·have hg3:=g3.2;rw [Af g3,show 1+1+1+1=4 from rfl,Qzy]
     by_cases c4:65536≤64 * (64 * (64 * (at8 s i - 240)+(at8 s (i+1) - 128))+(at8 s (i+2) - 128))+(at8 s (i+3) - 128)∧Q7y (64 * (64 * (64 * (at8 s i - 240)+(at8 s (i+1) - 128))+(at8 s (i+2) - 128))+(at8 s (i+3) - 128))
     ·rw [Af c4,Af ⟨by omega,c6,g1,g2,g3,c4⟩,Qg2 (by omega)];rfl
     rw [Ae c4,Ae (fun h=>c4 h.2.2.2.2.2),Q4b]
    rw [Ae g3,Ae (fun h=>g3 h.2.2.2.2.1),Q4b]
   rw [Ae g2,Ae (fun h=>g2 h.2.2.2.1),Q4b]
  rw [Ae g1,Ae (fun h=>g1 h.2.2.1),Q4b]
 rw [Ab (show ¬ ((at8 s i:Int)<248) by omega),Ah,Ae (fun h=>c6 h.2.1),Q4b]
theorem Qq4 (s:List UInt8) (i:Nat) (hi:i<s.length) (hs:s.length≤4611686018427387904):Tot (fun N=>Xw N s (i:Int)) (ptR s i):=
 ⟨5,fun N hN=>by obtain ⟨M,rfl⟩:∃ M,N=M+5:=⟨N - 5,by omega⟩;exact Qtl s i hi hs M⟩
theorem Qrs (s:List UInt8) (hs:s.length≤4611686018427387904):Tot (fun N=>Jf N s) (Qyb (Qhw s 0)):=by
 refine TotP.tot ?_;refine Q5w (L:=fun N n (p:Int)=>Yz N s n p) (fun p=>∃ i:Nat,p=(i:Int)∧i≤s.length∧Qhw s i=Qhw s 0) (fun p=>s.length - p.toNat) ?_ 0 ⟨0,rfl,Ms _,rfl⟩
 rintro p ⟨i,rfl,hi,hb0⟩
 show Stp _ _ _ (fun N n=>cond (Q2 .lss (i:Int) (s.length:Int)) _ _);rw [Qs];refine Stp.cond (fun h=>?_) (fun h=>?_)
 ·have hl:i<s.length:=by have:=Aa h;omega
  have hw:=Qkm s i hl
  have hb:Qhw s i=(if (Q48 s i).1=0∨Qn9 s i then some i else Qhw s (i+(Q48 s i).2)):=by rw [Qhw,dif_pos hl]
  refine Stp.bind (V:=(· = ptR s i)) ⟨_,rfl,Qq4 s i hl hs⟩ ?_
  rintro v rfl
  unfold ptR
  by_cases hn:Qn9 s i
  ·rw [Af (.inr hn)] at hb;unfold Qn9 at hn;rw [hn,Q4b];refine Stp.ret ?_;rw [← hb0,hb];rfl
  have hp:ptF (Q48 s i)=(((Q48 s i).1:Int),((Q48 s i).2:Int)):=Qg2 (c:=(Q48 s i).1) (w:=(Q48 s i).2) (fun h=>hn (by unfold Qn9;rw [← h.1,← h.2]));rw [hp,Zp,Zp];refine Stp.cond (fun h2=>by have:=Aa h2;have:=hw.1;omega) (fun _=>?_);refine Stp.cond (fun h0=>?_) (fun h0=>?_)
  ·have h0:(Q48 s i).1=0:=by have:=Aa h0;omega
   refine Stp.ret ?_;rw [← hb0,hb,Af (.inl h0)];rfl
  have h0:(Q48 s i).1≠0:=by have:=Ac h0;omega
  have e:wrap .i64 ((i:Int)+((Q48 s i).2:Int))=((i+(Q48 s i).2:Nat):Int):=by rw [w64 _ (by have:=hw.2.1;omega)];omega
  show Stp _ _ _ (fun N n=>Yz N s n (wrap .i64 ((i:Int)+((Q48 s i).2:Int))));rw [e];refine Stp.go _ ⟨⟨_,rfl,hw.2.1,?_⟩,by have:=hw.1;have:=hw.2.1;simp only [Lu];omega⟩;rw [← hb0,hb,Ae]
  rintro (h | h)
  ·exact h0 h
  exact hn h
 have hl:¬ i<s.length:=by have:=Ac h;omega
 refine Stp.ret ?_;rw [← hb0,Qhw,dif_neg hl];rfl
theorem Qvm (o:Option Nat):decide (Qyb o<0)=o.isNone:=by
 cases o with
 | none=>rfl
 | some p=>exact Ab (by simp only [Qyb];omega)
theorem Q5n (s:List UInt8):Tot (fun N=>Xc N s) (Q2v s):=by
 refine TotP.tot ?_;show TotP (fun N=>cond (Q2 .leq (s.length:Int) 65535) _ _) _;rw [Vz];refine TotP.cond (fun h=>?_) (fun h=>?_)
 ·have h:s.length≤65535:=by have:=Aa h;omega
  refine TotP.bindE (Qrs s (by omega)) (.ret ?_);rw [Qs,Qvm];simp [Q2v,h]
 have h:¬ s.length≤65535:=by have:=Ac h;omega
 exact .ret (by simp [Q2v,h])
theorem Qf9 (s:List UInt8) (hs:s.length≤maxLen) (c:Nat):Tot (fun N=>Yi N s (c:Int)) (s.any fun b=>b.toNat == c):=by
 have hm:=Qae;refine TotP.tot ?_;refine Q4a (L:=fun N n i=>Xm N s (c:Int) n i) s.length (fun i=>∀ j (h:j<s.length),j<i->(s[j]).toNat≠c) (fun i hi hj=>?_) (fun hj=>?_) (fun j _ hj=>by omega)
 ·show Stp _ _ _ (fun N n=>cond (Q2 .lss (i:Int) (s.length:Int)) _ _);refine Stp.cond (fun _=>?_) (fun h=>by rw [Qs] at h;have:=Ac h;omega);refine Stp.idx (Zo hi) ?_;rw [Zp];refine Stp.cond (fun h=>?_) (fun h=>?_)
  ·refine Stp.ret (Eq.symm ?_);rw [Cx];exact ⟨s[i],Mn _,by have:=Aa h;simp;omega⟩
  rw [w64 _ (by omega)];refine Stp.go _ ⟨by omega,fun j hj2 hji=>?_⟩
  by_cases e:j=i
  ·subst e;have:=Ac h;omega
  exact hj j hj2 (by omega)
 show Stp _ _ _ (fun N n=>cond (Q2 .lss (s.length:Int) (s.length:Int)) _ _);refine Stp.cond (fun h=>by rw [Qs] at h;have:=Aa h;omega) (fun _=>?_);refine Stp.ret (Eq.symm ?_);rw [Ds];intro b hb;obtain ⟨j,hj2,rfl⟩:=Dk hb;have:=hj j hj2 hj2;simpa using this
theorem Qop (s:List UInt8):Qlp s=((s.any fun b=>b.toNat == 43)||(s.any fun b=>b.toNat == 35)):=by
 unfold Qlp
 induction s with
 | nil=>rfl
 | cons b s ih=>simp only [List.any_cons,ih];cases b.toNat == 43<;>cases b.toNat == 35<;>cases (s.any fun b=>b.toNat == 43)<;>cases (s.any fun b=>b.toNat == 35)<;>rfl
theorem Q3a (s:List UInt8) (hs:s.length≤maxLen):Tot (fun N=>Yc N s) (Q02 s):=by
 refine TotP.tot ?_;show TotP (fun N=>cond (Jz .neq s []) _ _) _
 have e:Jz .neq s []=decide (s ≠ []):=by cases s<;>rfl
 rw [e];unfold Q02;rw [Qop];refine TotP.cond (fun h=>?_) (fun h => .ret (by rw [h];rfl));rw [h];refine TotP.bindE (Q5n s) ?_;refine TotP.cond (fun h=>?_) (fun h => .ret (by rw [h];rfl));rw [h];refine TotP.bindE (Qf9 s hs 43) ?_;refine TotP.cond (fun h=>?_) (fun h => .ret ?_)
 ·refine TotP.bindE (Qf9 s hs 35) (.ret ?_)
  have h:(s.any fun b=>b.toNat == 43)=false:=by simpa using h
  rw [h];rfl
 have h:(s.any fun b=>b.toNat == 43)=true:=by simpa using h
 rw [h];rfl
end
end Go.Av
namespace Go.Av
noncomputable section
class Kd (k:Int):Prop where
 lo:1≤k
 hi:k≤16
section
variable {k:Int} [hk:Kd k]
end
end
end Go.Av
namespace Go.Av
noncomputable section
set_option maxRecDepth 20000 in
structure FitV (sh:Int) (p:Q8s):Prop where
 num:sh≤4->0≤p.N'∧p.N'≤4294967295
 var:sh=4->p.N'≤268435455
 txt:p.Text.length≤65535
 val:p.Value.length≤65535
section
variable {k:Int} [hk:Kd k]
end
end
end Go.Av
namespace Go.Av
noncomputable section
section
variable {k:Int} [hk:Kd k]
set_option maxRecDepth 20000 in
end
end
end Go.Av
namespace Go.Av
noncomputable section
section
variable {k:Int} [hk:Kd k]
end
end
end Go.Av
namespace Go.Av
noncomputable section
section
variable {p:Xq} (h:Qky p)
include h
end
end
end Go.Av
namespace Go.Av
noncomputable section
section
variable {p:Xq} (h:Qky p)
include h
end
section
variable {p:Xq} (h:Qky p)
include h
end
end
end Go.Av
namespace Go.Av
noncomputable section
theorem Qgs (f:Zh):Any (fun N=>V0 N f):=by
 unfold V0
 repeat' first
  | exact TotP.ret trivial
  | refine TotP.cond (fun _=>?_) (fun _=>?_)
theorem Qrw (k:Int):Any (fun N=>Jb N k):=by
 unfold Jb
 repeat' first
  | exact TotP.ret trivial
  | refine TotP.cond (fun _=>?_) (fun _=>?_)
theorem Qr6 (k:Int) (f:Zh):Any (fun N=>Gu N k f):=by
 have j6:∀ c1 c2 c3 c4 c5 c6,Any (fun N=>U0 N c1 c2 c3 c4 c5 c6):=fun c1 c2 c3 c4 c5 c6=>TotP.ret trivial;have j5:∀ v c1 c2 c3 c4 c5,Any (fun N=>Vv N f v c1 c2 c3 c4 c5):=fun v c1 c2 c3 c4 c5=>TotP.cond (fun _=>j6 _ _ _ _ _ _) (fun _=>j6 _ _ _ _ _ _);have j4:∀ v c1 c2 c3 c4,Any (fun N=>U5 N f v c1 c2 c3 c4):=fun v c1 c2 c3 c4=>TotP.cond (fun _=>j5 _ _ _ _ _ _) (fun _=>j5 _ _ _ _ _ _);have j3:∀ v c1 c2 c3,Any (fun N=>U2 N f v c1 c2 c3):=fun v c1 c2 c3=>TotP.cond (fun _=>j4 _ _ _ _ _) (fun _=>j4 _ _ _ _ _);have j2:∀ v c1 c2,Any (fun N=>U4 N f v c1 c2):=fun v c1 c2=>TotP.cond (fun _=>j3 _ _ _ _) (fun _=>j3 _ _ _ _);have j1:∀ v c1,Any (fun N=>Vu N f v c1):=fun v c1=>TotP.cond (fun _=>j2 _ _ _) (fun _=>j2 _ _ _);have j0:∀ c1,Any (fun N=>We N k f c1):=fun c1=>TotP.cond (fun _ => .ret trivial) (fun _=>TotP.bind (Qrw k) (fun v _=>TotP.cond (fun _=>j1 _ _) (fun _=>j1 _ _)));exact TotP.bind (Qgs f) (fun v _=>TotP.cond (fun _ => .ret trivial) (fun _=>TotP.cond (fun _=>j0 _) (fun _=>j0 _)))
structure Cd (B:Nat) (c:Q0):Prop where
 d:c.do'=1∨c.do'=2
 nm:c.m.Name.length≤70000
 da:c.m.Data.length≤70000
 ou:c.out.length≤B
theorem Cd.mono {B C:Nat} {c:Q0} (h:Cd B c) (hB:B≤C):Cd C c:=⟨h.d,h.nm,h.da,Mq h.ou hB⟩
theorem Cd.zero {B:Nat} {c:Q0} (h:Cd B c):Q2 .eql c.do' 0=false:=by
 have:=h.d;rw [Zp];exact Ab (by omega)
theorem Q4y {v:List UInt8} {n:Nat} (h:v.length=n+1):(!(Nat.beq v.length 0))=true:=by rw [h];rfl
section
variable {B:Nat} {c:Q0} (h:Cd B c) (hB:B≤10000000)
include h hB
theorem Qm7:TotP (fun N=>Zr N c) (fun r=>Cd (B+70000) r.2):=by
 have hz:=h.zero;have hd:=h.d;have hn:=h.nm;have ha:=h.da;have ho:=h.ou;unfold Zr;rw [hz]
 repeat' first
  | exact TotP.ret ⟨hd,by (first | (simp only [Mb];omega) | (dsimp only;omega) | omega),by (first | (simp only [Mb];omega) | (dsimp only;omega) | omega),by (first | (simp only [Ln,Lp];omega) | (dsimp only;omega) | omega)⟩
  | refine TotP.cond (fun e=>absurd e Nb) (fun _=>?_)
  | refine TotP.bind (Q2c _ 1 (by omega) (by omega)) (fun v hv=>TotP.chk (Q4y hv) (TotP.chk (by rw [Ls];omega) ?_))
  | refine TotP.chk (by rw [Ls];omega) ?_
  | refine TotP.cond (fun _=>?_) (fun _=>?_)
theorem Qo3:TotP (fun N=>Y3 N c) (fun r=>Cd (B+70000) r.2):=by
 have hz:=h.zero;have hd:=h.d;have hn:=h.nm;have ha:=h.da;have ho:=h.ou;unfold Y3;rw [hz]
 repeat' first
  | exact TotP.ret ⟨hd,by (first | (simp only [Mb];omega) | (dsimp only;omega) | omega),by (first | (simp only [Mb];omega) | (dsimp only;omega) | omega),by (first | (simp only [Ln,Lp];omega) | (dsimp only;omega) | omega)⟩
  | refine TotP.cond (fun e=>absurd e Nb) (fun _=>?_)
  | refine TotP.bind (Q2c _ 2 (by omega) (by omega)) (fun v hv=>TotP.chk (Q4y hv) (TotP.chk (by rw [Ls];omega) ?_))
  | refine TotP.chk (by rw [Ls];omega) ?_
  | refine TotP.cond (fun _=>?_) (fun _=>?_)
theorem Qnf:TotP (fun N=>Yb N c) (fun r=>Cd (B+70000) r.2):=by
 have hz:=h.zero;have hd:=h.d;have hn:=h.nm;have ha:=h.da;have ho:=h.ou;unfold Yb;rw [hz]
 repeat' first
  | exact TotP.ret ⟨hd,by (first | (simp only [Mb];omega) | (dsimp only;omega) | omega),by (first | (simp only [Mb];omega) | (dsimp only;omega) | omega),by (first | (simp only [Ln,Lp];omega) | (dsimp only;omega) | omega)⟩
  | refine TotP.cond (fun e=>absurd e Nb) (fun _=>?_)
  | refine TotP.bind (Q2c _ 1 (by omega) (by omega)) (fun v hv=>TotP.chk (Q4y hv) (TotP.chk (by rw [Ls];omega) ?_))
  | refine TotP.chk (by rw [Ls];omega) ?_
  | refine TotP.cond (fun _=>?_) (fun _=>?_)
theorem Qj2:TotP (fun N=>Zu N c) (fun r=>Cd (B+70000) r.2):=by
 have hz:=h.zero;have hd:=h.d;have hn:=h.nm;have ha:=h.da;have ho:=h.ou;unfold Zu;rw [hz]
 repeat' first
  | exact TotP.ret ⟨hd,by (first | (simp only [Mb];omega) | (dsimp only;omega) | omega),by (first | (simp only [Mb];omega) | (dsimp only;omega) | omega),by (first | (simp only [Ln,Lp];omega) | (dsimp only;omega) | omega)⟩
  | refine TotP.cond (fun e=>absurd e Nb) (fun _=>?_)
  | refine TotP.bind (Q2c _ 1 (by omega) (by omega)) (fun v hv=>TotP.chk (Q4y hv) (TotP.chk (by rw [Ls];omega) ?_))
  | refine TotP.chk (by rw [Ls];omega) ?_
  | refine TotP.cond (fun _=>?_) (fun _=>?_)
theorem Qy0:TotP (fun N=>Zb N c) (fun r=>Cd (B+70000) r.2):=by
 have hz:=h.zero;have hd:=h.d;have hn:=h.nm;have ha:=h.da;have ho:=h.ou;unfold Zb;rw [hz]
 repeat' first
  | exact TotP.ret ⟨hd,by (first | (simp only [Mb];omega) | (dsimp only;omega) | omega),by (first | (simp only [Mb];omega) | (dsimp only;omega) | omega),by (first | (simp only [Ln,Lp];omega) | (dsimp only;omega) | omega)⟩
  | refine TotP.cond (fun e=>absurd e Nb) (fun _=>?_)
  | refine TotP.bind (Q2c _ 1 (by omega) (by omega)) (fun v hv=>TotP.chk (Q4y hv) (TotP.chk (by rw [Ls];omega) ?_))
  | refine TotP.chk (by rw [Ls];omega) ?_
  | refine TotP.cond (fun _=>?_) (fun _=>?_)
theorem Qzu:TotP (fun N=>Za N c) (fun r=>Cd (B+70000) r.2):=by
 have hz:=h.zero;have hd:=h.d;have hn:=h.nm;have ha:=h.da;have ho:=h.ou;unfold Za;rw [hz]
 repeat' first
  | exact TotP.ret ⟨hd,by (first | (simp only [Mb];omega) | (dsimp only;omega) | omega),by (first | (simp only [Mb];omega) | (dsimp only;omega) | omega),by (first | (simp only [Ln,Lp];omega) | (dsimp only;omega) | omega)⟩
  | refine TotP.cond (fun e=>absurd e Nb) (fun _=>?_)
  | refine TotP.bind (Q2c _ 2 (by omega) (by omega)) (fun v hv=>TotP.chk (Q4y hv) (TotP.chk (by rw [Ls];omega) ?_))
  | refine TotP.chk (by rw [Ls];omega) ?_
  | refine TotP.cond (fun _=>?_) (fun _=>?_)
theorem Qz7:TotP (fun N=>Qu N c) (fun r=>Cd (B+70000) r.2):=by
 have hz:=h.zero;have hd:=h.d;have hn:=h.nm;have ha:=h.da;have ho:=h.ou;unfold Qu;rw [hz]
 repeat' first
  | exact TotP.ret ⟨hd,by (first | (simp only [Mb];omega) | (dsimp only;omega) | omega),by (first | (simp only [Mb];omega) | (dsimp only;omega) | omega),by (first | (simp only [Ln,Lp];omega) | (dsimp only;omega) | omega)⟩
  | refine TotP.cond (fun e=>absurd e Nb) (fun _=>?_)
  | refine TotP.bind (Q2c _ 2 (by omega) (by omega)) (fun v hv=>TotP.chk (Q4y hv) (TotP.chk (by rw [Ls];omega) ?_))
  | refine TotP.chk (by rw [Ls];omega) ?_
  | refine TotP.cond (fun _=>?_) (fun _=>?_)
theorem Qjg:TotP (fun N=>Qr N c) (fun r=>Cd (B+70000) r.2):=by
 have hz:=h.zero;have hd:=h.d;have hn:=h.nm;have ha:=h.da;have ho:=h.ou;unfold Qr;refine TotP.bind (Qgs _) (fun w _=>?_);rw [hz]
 repeat' first
  | exact TotP.ret ⟨hd,by (first | (simp only [Mb];omega) | (dsimp only;omega) | omega),by (first | (simp only [Mb];omega) | (dsimp only;omega) | omega),by (first | (simp only [Ln,Lp];omega) | (dsimp only;omega) | omega)⟩
  | refine TotP.cond (fun e=>absurd e Nb) (fun _=>?_)
  | refine TotP.bind (Q2c _ 1 (by omega) (by omega)) (fun v hv=>TotP.chk (Q4y hv) (TotP.chk (by rw [Ls];omega) ?_))
  | refine TotP.chk (by rw [Ls];omega) ?_
  | refine TotP.cond (fun _=>?_) (fun _=>?_)
theorem Qi3:TotP (fun N=>Qa N c) (fun r=>Cd (B+70000) r.2):=by
 have hz:=h.zero;have hd:=h.d;have hn:=h.nm;have ha:=h.da;have ho:=h.ou;unfold Qa;rw [hz];refine TotP.cond (fun e=>absurd e Nb) (fun _=>?_)
 refine TotP.cond (fun _=>?_) (fun _ => .ret ⟨hd,by (first | (simp only [Mb];omega) | (dsimp only;omega) | omega),by (first | (simp only [Mb];omega) | (dsimp only;omega) | omega),by (first | (simp only [Ln,Lp];omega) | (dsimp only;omega) | omega)⟩)
 refine TotP.cond (fun _ => .ret ⟨hd,by (first | (simp only [Mb];omega) | (dsimp only;omega) | omega),by (first | (simp only [Mb];omega) | (dsimp only;omega) | omega),by (first | (simp only [Ln,Lp];omega) | (dsimp only;omega) | omega)⟩) (fun _=>?_)
 exact TotP.chk (by rw [Ls];omega) (.ret ⟨hd,by (first | (simp only [Mb];omega) | (dsimp only;omega) | omega),by (first | (simp only [Mb];omega) | (dsimp only;omega) | omega),by (first | (simp only [Ln,Lp];omega) | (dsimp only;omega) | omega)⟩)
theorem Qv7:TotP (fun N=>Y2 N c) (fun r=>Cd (B+70000) r.2):=by
 have hz:=h.zero;have hd:=h.d;have hn:=h.nm;have ha:=h.da;have ho:=h.ou;unfold Y2;rw [hz];refine TotP.cond (fun e=>absurd e Nb) (fun _=>?_)
 refine TotP.cond (fun _=>?_) (fun _ => .ret ⟨hd,by (first | (simp only [Mb];omega) | (dsimp only;omega) | omega),by (first | (simp only [Mb];omega) | (dsimp only;omega) | omega),by (first | (simp only [Ln,Lp];omega) | (dsimp only;omega) | omega)⟩)
 refine TotP.cond (fun _ => .ret ⟨hd,by (first | (simp only [Mb];omega) | (dsimp only;omega) | omega),by (first | (simp only [Mb];omega) | (dsimp only;omega) | omega),by (first | (simp only [Ln,Lp];omega) | (dsimp only;omega) | omega)⟩) (fun _=>?_)
 exact TotP.chk (by rw [Ls];omega) (.ret ⟨hd,by (first | (simp only [Mb];omega) | (dsimp only;omega) | omega),by (first | (simp only [Mb];omega) | (dsimp only;omega) | omega),by (first | (simp only [Ln,Lp];omega) | (dsimp only;omega) | omega)⟩)
end
section
variable {B:Nat} {c:Q0} (h:Cd B c) (hB:B≤1000000)
include h hB
attribute [local irreducible] Zr Y3 Yb Zu Zb Za Qu Qr Qa Y2
theorem Qwh:TotP (fun N=>X3 N c) (fun r=>Cd (B+140000) r.2):=by
 have hz:=h.zero;unfold X3;rw [hz]
 repeat' first
  | exact TotP.ret (Cd.mono (by assumption) (by omega))
  | refine TotP.cond (fun e=>absurd e Nb) (fun _=>?_)
  | refine TotP.cond (fun _=>?_) (fun _=>?_)
  | refine TotP.bind (Qjg (by assumption) (by omega)) (fun v hv=>?_)
  | refine TotP.bind (Qi3 (by assumption) (by omega)) (fun v hv=>?_)
theorem Qtc:TotP (fun N=>Y4 N c) (fun r=>Cd (B+140000) r.2):=by
 unfold Y4
 repeat' first
  | exact TotP.ret (Cd.mono (by assumption) (by omega))
  | refine TotP.cond (fun _=>?_) (fun _=>?_)
  | refine TotP.bind (Qzu (by assumption) (by omega)) (fun v hv=>?_)
  | refine TotP.bind (Qi3 (by assumption) (by omega)) (fun v hv=>?_)
theorem Qix:TotP (fun N=>Yo N c) (fun r=>Cd (B+140000) r.2):=by
 have hz:=h.zero;unfold Yo;rw [hz];refine TotP.cond (fun e=>absurd e Nb) (fun _=>?_);refine TotP.cond (fun _=>?_) (fun _=>?_)
 ·refine TotP.bind (Qo3 h (by omega)) (fun v hv=>?_);refine TotP.cond (fun _ => .ret ?_) (fun _ => .ret (hv.mono (by omega)));exact ⟨hv.d,hv.nm,hv.da,Mq hv.ou (by omega)⟩
 refine TotP.cond (fun _ => .ret ?_) (fun _ => .ret (h.mono (by omega)));exact ⟨h.d,h.nm,h.da,Mq h.ou (by omega)⟩
end
section
variable {B:Nat} {c:Q0} (h:Cd B c) (hB:B≤1000)
include h hB
attribute [local irreducible] Zr Y3 Yb Zu Zb Za Qu Qr Qa Y2 X3 Y4 Yo
theorem Qcy:TotP (fun N=>Ql N c) (fun r=>Cd (B+700000) r.2):=by
 have l0:TotP (fun N=>X6 N c N) (fun r=>Cd (B+700000) r.2):=⟨((),c),h.mono (by omega),1,fun N hN=>by obtain ⟨M,rfl⟩:∃ M,N=M+1:=⟨N - 1,by omega⟩;rfl⟩;unfold Ql
 repeat' first
  | exact TotP.ret (Cd.mono (by assumption) (by omega))
  | exact l0
  | refine TotP.cond (fun _=>?_) (fun _=>?_)
  | refine TotP.bind (Qm7 (by assumption) (by omega)) (fun v hv=>?_)
  | refine TotP.bind (Qo3 (by assumption) (by omega)) (fun v hv=>?_)
  | refine TotP.bind (Qnf (by assumption) (by omega)) (fun v hv=>?_)
  | refine TotP.bind (Qj2 (by assumption) (by omega)) (fun v hv=>?_)
  | refine TotP.bind (Qy0 (by assumption) (by omega)) (fun v hv=>?_)
  | refine TotP.bind (Qzu (by assumption) (by omega)) (fun v hv=>?_)
  | refine TotP.bind (Qz7 (by assumption) (by omega)) (fun v hv=>?_)
  | refine TotP.bind (Qjg (by assumption) (by omega)) (fun v hv=>?_)
  | refine TotP.bind (Qi3 (by assumption) (by omega)) (fun v hv=>?_)
  | refine TotP.bind (Qv7 (by assumption) (by omega)) (fun v hv=>?_)
  | refine TotP.bind (Qwh (by assumption) (by omega)) (fun v hv=>?_)
  | refine TotP.bind (Qtc (by assumption) (by omega)) (fun v hv=>?_)
  | refine TotP.bind (Qix (by assumption) (by omega)) (fun v hv=>?_)
end
structure OkM (m:Yw):Prop where
 nm:m.Name.length≤70000
 da:m.Data.length≤70000
section
variable {m:Yw} (h:OkM m)
include h
theorem cd0 (d:Int) (hd:d=1∨d=2):Cd 0 ⟨d,m,[],false⟩:=⟨hd,h.nm,h.da,Li 0⟩
theorem Qkz:TotP (fun N=>V6 N m) (fun l=>l.length≤700000):=by
 unfold V6;exact TotP.bind (Qcy (cd0 h 1 (.inl rfl)) (by omega)) (fun v hv => .ret (by have:=hv.ou;rw [Lp];omega))
end
theorem Qgw (k r:Int):TotP (fun N=>Xe N k r) (fun x=>x.1.length≤100):=by
 have h1:Any (fun N=>V1 N k):=by
  unfold V1
  repeat' first
   | exact TotP.ret trivial
   | refine TotP.cond (fun _=>?_) (fun _=>?_)
 unfold Xe;refine TotP.bind h1 (fun _ _=>?_)
 repeat' first
  | exact TotP.ret (by simp only [Mb,Ln];omega)
  | refine TotP.bind (Qbb _ _) (fun v hv=>?_)
  | refine TotP.chk (by rw [Ls];(first | omega | (simp only [Ln];omega))) ?_
  | refine TotP.cond (fun _=>?_) (fun _=>?_)
section
variable {m:Yw} (h:OkM m)
include h
theorem Qln:Any (fun N=>Uh N m):=by
 have hm:=ml7;have hn:=h.nm
 have h1:Any (fun N=>J1 N m.Type'):=by
  unfold J1 V1;refine TotP.bind (V:=fun _=>True) ?_ (fun _ _=>TotP.cond (fun _ => .ret trivial) (fun _ => .ret trivial))
  repeat' first
   | exact TotP.ret trivial
   | refine TotP.cond (fun _=>?_) (fun _=>?_)
 have h2:Any (fun N=>Gr N m.Type'):=by
  unfold Gr
  repeat' first
   | exact TotP.ret trivial
   | refine TotP.cond (fun _=>?_) (fun _=>?_)
 have h3:Any (fun N=>Wz N m):=by
  unfold Wz
  repeat' first
   | exact TotP.ret trivial
   | refine TotP.cond (fun _=>?_) (fun _=>?_)
 have hN:∀ s:List UInt8,s.length≤70000->Any (fun N=>V5 N s):=fun s hs=>Qi5 (Q3j _ (by omega));have hF:Any (fun N=>Wc N m.Name):=Qmg _ hn;have hV:∀ s,Any (fun N=>Vs N s):=fun s=>Qi5 (Q7m s)
 have h4:∀ i,Any (fun N=>Xd N i):=fun i=>by
  unfold Xd;refine TotP.cond (fun _ => .ret trivial) (fun _=>TotP.cond (fun _ => .ret trivial) (fun _=>?_));refine TotP.bind (Qbb _ _) (fun v hv=>?_);refine TotP.bind (hN v (by omega)) (fun _ _=>?_);exact TotP.cond (fun _ => .ret trivial) (fun _ => .ret trivial)
 have h5:Any (fun N=>Xo N m):=by
  unfold Xo
  repeat' first
   | exact TotP.ret trivial
   | refine TotP.cond (fun _=>?_) (fun _=>?_)
   | refine TotP.bind (by first | exact h4 _) (fun _ _=>?_)
 have h6:Any (fun N=>Vq N m):=by
  unfold Vq
  repeat' first
   | exact TotP.ret trivial
   | refine TotP.cond (fun _=>?_) (fun _=>?_)
   | refine TotP.bind (by first | exact hN _ hn | exact hF | exact hV _) (fun _ _=>?_)
 have h7:=(Qcy (cd0 h 2 (.inr rfl)) (by omega)).any;have h8:=(Qkz h).any;have h9:∀ a b,Any (fun N=>Xe N a b):=fun a b=>(Qgw a b).any;have h10:=Qr6 m.Type' m.Flags;unfold Uh
 repeat' first
  | exact TotP.ret trivial
  | refine TotP.cond (fun _=>?_) (fun _=>?_)
  | refine TotP.bind (by first | exact h1 | exact h10 | exact h2 | exact h7 | exact h3 | exact h5 | exact h6 | exact h8 | exact h9 _ _) (fun _ _=>?_)
theorem Q86:TotP (fun N=>Xp N m) (fun r=>r.1.length≤800000):=by
 unfold Xp;refine TotP.bind (Qln h) (fun _ _=>TotP.cond (fun _ => .ret (by simp)) (fun _=>?_));refine TotP.bind (Qkz h) (fun v hv=>?_);refine TotP.bind (Qgw _ _) (fun w hw=>TotP.cond (fun _ => .ret (by simp)) (fun _=>?_));exact TotP.chk (by rw [Ls];omega) (.ret (by simp only [Ln];omega))
end
structure Qzp (d:Yt):Prop where
 hops:d.Hops.length≤30
 node:∀ x∈d.Hops,x.Node.length≤300
 msg:OkM d.Msg
section
variable {d:Yt} (h:Qzp d) (l:Vt)
include h
theorem Qm1 (v:List UInt8×Int) (hv:v.1.length≤800000):Any (fun N=>W6 N d l v N [] 0):=by
 have hc:=h.hops;refine Q5w (L:=fun N n (q:List UInt8×Int)=>W6 N d l v n q.1 q.2) (Q:=fun _=>True) (fun q=>∃ i:Nat,q.2=(i:Int)∧i≤d.Hops.length∧q.1.length≤i * 400) (fun q=>d.Hops.length - q.2.toNat) ?_ ([],0) ⟨0,rfl,by omega,by simp⟩
 rintro ⟨o,s⟩ ⟨i,hs,hi,hl⟩
 simp only at hs hl
 subst hs;show Stp _ _ _ (fun N n=>cond (Q2 .lss (i:Int) ((Qi Q0a.cells d.Hops).length:Int)) _ _);rw [Qy,Qs];dsimp only;refine Stp.cond (fun hx=>?_) (fun _=>Stp.cond (fun _=>Stp.ret trivial) (fun _=>Stp.chk (by rw [Ls];omega) (Stp.ret trivial)));have hx:=Aa hx
 have hi:i<d.Hops.length:=by omega
 refine Stp.idx (Zo hi) ?_;have hf:=h.node _ (Mn hi);generalize d.Hops[i]=y at hf
 have e1:wrap .i64 ((i:Int)+1)=((i+1:Nat):Int):=by rw [w64 _ (by omega)];omega
 refine Stp.bind (Qqx y hf) (fun w hw=>?_);refine Stp.chk (by rw [Ls];omega) ?_;rw [e1];exact Stp.go (L:=fun N n (q:List UInt8×Int)=>W6 N d l v n q.1 q.2) (o++w,((i+1:Nat):Int)) ⟨⟨i+1,rfl,by omega,by simp only [Ln];omega⟩,by simp only [Lu];omega⟩
theorem Qd3 (v:List UInt8×Int) (hv:v.1.length≤800000):Any (fun N=>Yr N d l v N [] 0):=by
 have hc:=h.hops;refine Q5w (L:=fun N n (q:List UInt8×Int)=>Yr N d l v n q.1 q.2) (Q:=fun _=>True) (fun q=>∃ i:Nat,q.2=(i:Int)∧i≤d.Hops.length∧q.1.length≤i * 400) (fun q=>d.Hops.length - q.2.toNat) ?_ ([],0) ⟨0,rfl,by omega,by simp⟩
 rintro ⟨o,s⟩ ⟨i,hs,hi,hl⟩
 simp only at hs hl
 subst hs;show Stp _ _ _ (fun N n=>cond (Q2 .lss (i:Int) ((Qi Q0a.cells d.Hops).length:Int)) _ _);rw [Qy,Qs];dsimp only;refine Stp.cond (fun hx=>?_) (fun _=>Stp.cond (fun _=>Stp.ret trivial) (fun _=>Stp.chk (by rw [Ls];omega) (Stp.ret trivial)));have hx:=Aa hx
 have hi:i<d.Hops.length:=by omega
 refine Stp.idx (Zo hi) ?_;have hf:=h.node _ (Mn hi);generalize d.Hops[i]=y at hf
 have e1:wrap .i64 ((i:Int)+1)=((i+1:Nat):Int):=by rw [w64 _ (by omega)];omega
 refine Stp.bind (Qqx y hf) (fun w hw=>?_);refine Stp.chk (by rw [Ls];omega) ?_;rw [e1];exact Stp.go (L:=fun N n (q:List UInt8×Int)=>Yr N d l v n q.1 q.2) (o++w,((i+1:Nat):Int)) ⟨⟨i+1,rfl,by omega,by simp only [Ln];omega⟩,by simp only [Lu];omega⟩
theorem Qpy:Any (fun N=>Vn N d l):=by
 have hc:=h.hops
 have h0:Any (fun N=>Ze N d l N 0):=by
  refine Q4a (L:=fun N n i=>Ze N d l n i) d.Hops.length (fun _=>True) (fun i hi _=>?_) (fun _=>?_) trivial
  ·show Stp _ _ _ (fun N n=>cond (Q2 .lss (i:Int) ((Qi Q0a.cells d.Hops).length:Int)) _ _);refine Stp.cond (fun _=>?_) (fun _=>?_)
   ·refine Stp.idx (Zo hi) ?_;refine Stp.bind (Qpq _) (fun _ _=>?_);refine Stp.cond (fun _=>?_) (fun _=>?_)
    ·refine Stp.cond (fun _=>Stp.ret trivial) (fun _=>?_);refine Stp.fin (TotP.bind (Q86 h.msg) (fun v hv=>?_));exact TotP.cond (fun _ => .ret trivial) (fun _=>Qm1 h l v hv)
    rw [w64 _ (by omega)];exact Stp.go (L:=fun N n i=>Ze N d l n i) _ ⟨by omega,trivial⟩
   refine Stp.fin (TotP.bind (Q86 h.msg) (fun v hv=>?_));exact TotP.cond (fun _ => .ret trivial) (fun _=>Qd3 h l v hv)
  show Stp _ _ _ (fun N n=>cond (Q2 .lss (d.Hops.length:Int) ((Qi Q0a.cells d.Hops).length:Int)) _ _);rw [Qy,Qs,Ab (by omega)];refine Stp.fin (TotP.bind (Q86 h.msg) (fun v hv=>?_));exact TotP.cond (fun _ => .ret trivial) (fun _=>Qd3 h l v hv)
 have h1:Any (fun N=>Uo N l):=by
  unfold Uo
  repeat' first
   | exact TotP.ret trivial
   | refine TotP.cond (fun _=>?_) (fun _=>?_)
 unfold Vn Jk;refine TotP.bind (V:=fun _=>True) ?_ (fun _ _ => .ret trivial);refine TotP.bind h1 (fun _ _=>?_);exact TotP.cond (fun _ => .ret trivial) (fun _=>TotP.cond (fun _ => .ret trivial) (fun _=>h0))
end
end
end Go.Av
namespace Go.Av
noncomputable section
structure LE (e:Jh):Prop where
 topic:e.Topic.length≤2000
 payload:e.Payload.length≤2000
 props:OkP e.Props
 pk:Qky e.Packet
 dg:Qzp ⟨e.Hops,e.Msg⟩
 fb:FB e.Frame
end
end Go.Av
namespace Go.Av
noncomputable section
structure Z85 (a:Jh):Prop where
 props:a.Props.length≤maxLen
 hops:a.Hops.length≤maxLen
 pk:Z3c a.Packet
 fr:Z0.szs a.Frame.Values<700000000
structure PubT (e:Jh) (c t b:Bool):Prop where
 known:e.Proto=1∨e.Proto=2∨e.Proto=3∨e.Proto=4
 kind:e.Kind=1
 qos:(0≤e.QoS∧e.QoS≤2)∨(e.Proto=3∧e.QoS = -1)
 id:0≤e.ID∧e.ID≤65535
 cid:c=decide (e.ID≠0)
 dup:e.Dup=true->c=true∨e.Proto=3
 props:0<e.Props.length->e.Proto=2
 ty:e.Proto=3->t=true
 ty2:e.Proto≠3->e.Type'=0∧e.Hops.length=0
 ch:0≤e.Channel∧e.Channel≤65535
 ch4:e.Channel≠0->e.Proto=4
 bare:b=true
section
end
end
end Go.Av
namespace Go.Av
noncomputable section
end
end Go.Av
namespace Go.Av
noncomputable section
end
end Go.Av
namespace Go.Av
noncomputable section
section
variable {p:Xq} (h:Qky p)
include h
end
end
end Go.Av
namespace Go.Av
noncomputable section
section
variable {k:Int} [hk:Kd k]
end
theorem Qyk (c:Int) (h:0≤c∧c<256) : [UInt8.ofNat (wrap .u8 c).toNat]=Q12 c.toNat 1:=by
 show _ = [UInt8.ofNat (c.toNat % 256)];rw [Qw0]
 congr 2
 omega
section
variable {p:Xq} (h:Qky p)
include h
end
end
end Go.Av
namespace Go.Av
noncomputable section
def Qtx (v k:Int):Prop:=k=12∨k=13∨(k=14∧v=4)
instance (v k:Int):Decidable (Qtx v k):=by unfold Qtx;infer_instance
def Z47 (v k:Int):Prop:=(v=4∨v=5)∧12≤k∧k≤15
instance (v k:Int):Decidable (Z47 v k):=by unfold Z47;infer_instance
section
variable {v:Int} {p:Xq} (h:Qky p)
end
end
end Go.Av
namespace Go.Av
noncomputable section
section
variable {v:Int} {p:Xq} (h:Qky p)
include h
end
end
end Go.Av
namespace Go.Av
noncomputable section
section
variable {v:Int} {p:Xq} (h:Qky p)
include h
end
end
end Go.Av
namespace Go.Av
noncomputable section
end
end Go.Av
namespace Go.Av
noncomputable section
section
variable {v:Int} {p:Xq} (h:Qky p)
include h
end
end
end Go.Av
namespace Go.Av
noncomputable section
def Z5f (p:Xq):Prop:=(0≤p.QoS∧p.QoS≤2)∧(p.QoS=0->p.Dup=false)
instance (p:Xq):Decidable (Z5f p):=by unfold Z5f;infer_instance
open Classical in
instance:Kd 3:=⟨by decide,by decide⟩
section
variable {v:Int} {p:Xq} (h:Qky p)
end
end
end Go.Av
namespace Go.Av
noncomputable section
section
variable {v:Int} {p:Xq} (h:Qky p)
include h
end
end
end Go.Av
namespace Go.Av
noncomputable section
def Wg:List UInt8->List (List UInt8)
 | [] => [[]]
 | c::s=>if c == 47 then []::Wg s else match Wg s with
  | [] => [[c]]
  | a::r=>(c::a)::r
theorem Gp:∀ s:List UInt8,∃ a r,Wg s=a::r
 | []=>⟨[],[],rfl⟩
 | c::s=>by
  obtain ⟨a,r,e⟩:=Gp s;unfold Wg;rw [e];split
  ·exact ⟨_,_,rfl⟩
  exact ⟨_,_,rfl⟩
theorem Qc3 (s:List UInt8):Wg (47::s) = []::Wg s:=rfl
theorem Q4n {c:UInt8} (h:(c == 47)=false) {s a:List UInt8} {r:List (List UInt8)} (e:Wg s=a::r):Wg (c::s)=(c::a)::r:=by
 show (if (c == 47)=true then []::Wg s else match Wg s with | [] => [[c]] | a::r=>(c::a)::r)=_;rw [Ae (by rw [h];decide),e]
theorem Q9u:∀ (l:List UInt8) (c:UInt8) (n:Nat),Q3e l c n=n+Q3e l c 0
 | [],_,n=>rfl
 | b::l,c,n=>by
  have e:∀ m,Q3e (b::l) c m=if (b == c)=true then Q3e l c (m+1) else Q3e l c m:=fun m=>rfl;rw [e n,e 0];split
  ·rw [Q9u l c (n+1),Q9u l c (0+1)];omega
  rw [Q9u l c n]
theorem Q88:∀ s:List UInt8,(Wg s).length=Q3e s 47 0+1
 | []=>rfl
 | c::s=>by
  have ih:=Q88 s;have e:Q3e (c::s) 47 0=if (c == 47)=true then Q3e s 47 (0+1) else Q3e s 47 0:=rfl;rw [e]
  cases h:(c == 47) with
  | true=>
   rw [Af rfl,Q9u,eq_of_beq h,Qc3,Ma,ih];omega
  | false=>
   rw [Ae (by decide)];obtain ⟨a,r,e⟩:=Gp s;rw [Q4n h e,Ma];rw [e,Ma] at ih;exact ih
theorem Qb4:∀ (t:List UInt8) (i k:Nat),Q9a t 47 i=((i+k:Nat):Int)->Wg t=t.take k::Wg (t.drop (k+1))∧k<t.length∧t=t.take k++47::t.drop (k+1)
 | [],i,k,h=>absurd (show (-1:Int)=_ from h) (by omega)
 | c::t,i,k,h=>by
  have e:Q9a (c::t) 47 i=if (c == 47)=true then (i:Int) else Q9a t 47 (i+1):=rfl;rw [e] at h
  cases hc:(c == 47) with
  | true=>
   rw [hc,Af rfl] at h
   obtain rfl:k=0:=by omega
   rw [eq_of_beq hc];exact ⟨rfl,by simp,rfl⟩
  | false=>
   rw [hc,Ae (by decide)] at h
   rcases Qb2 t 47 (i+1) with h1 | ⟨j,h1,h2,_⟩
   ·rw [h1] at h;omega
   obtain ⟨m,rfl⟩:∃ m,k=m+1:=⟨k - 1,by omega⟩;obtain ⟨i1,i2,i3⟩:=Qb4 t (i+1) m (by rw [h];omega);refine ⟨?_,by simp only [Ma];omega,?_⟩
   ·rw [Q4n hc i1];rfl
   show c::t=c::(t.take m++47::t.drop (m+1));rw [← i3]
theorem Q8i:∀ (t:List UInt8) (i:Nat),Q9a t 47 i = -1->Wg t = [t]
 | [],_,_=>rfl
 | c::t,i,h=>by
  have e:Q9a (c::t) 47 i=if (c == 47)=true then (i:Int) else Q9a t 47 (i+1):=rfl;rw [e] at h
  cases hc:(c == 47) with
  | true=>rw [hc,Af rfl] at h;omega
  | false=>
   rw [hc,Ae (by decide)] at h;exact Q4n hc (Q8i t (i+1) h)
theorem Qda:∀ (s:List UInt8),∀ x∈Wg s,x.length≤s.length
 | [],x,hx=>by
  have:x = []:=by simpa [Wg] using hx
  rw [this];exact Li _
 | c::s,x,hx=>by
  have ih:=Qda s
  cases hc:(c == 47) with
  | true=>
   rw [eq_of_beq hc,Qc3] at hx
   rcases Lx.1 hx with rfl | hx
   ·exact Ms _
   exact Mq (ih x hx) (by simp)
  | false=>
   obtain ⟨a,r,e⟩:=Gp s;rw [Q4n hc e] at hx;rw [e] at ih
   rcases Lx.1 hx with rfl | hx
   ·have:=ih a List.mem_cons_self;simp only [Ma];omega
   have:=ih x (List.mem_cons_of_mem _ hx);simp only [Ma];omega
def Z1s (s:List UInt8) (c:Nat) (p:List UInt8×Int×List (List UInt8)):Prop:=∃ i:Nat,p.2.1=(i:Int)∧i≤c∧p.2.2.length=c+1∧p.2.2.take i++Wg p.1=Wg s∧p.1.length≤s.length
theorem Qvu (s:List UInt8) (hs:s.length≤70000):Tot (fun N=>Uu N s) (Wg s):=by
 refine TotP.tot ?_;unfold Uu;refine TotP.cond (fun h=>by rw [Uz] at h;exact absurd (Aa h) (by simp)) (fun _=>?_);have h47:UInt8.ofNat (Int.toNat 47)=47:=rfl;rw [h47];obtain ⟨c,hcd⟩:∃ c,Q3e s 47 0=c:=⟨_,rfl⟩;have hc:=Qb7 s 47 0;have hsl:=Q88 s;rw [hcd] at hc hsl ⊢;have e1:wrap .i64 ((s.length:Int)+1)=(s.length:Int)+1:=w64 _ (by omega);have e2:wrap .i64 ((c:Int)+1)=(c:Int)+1:=w64 _ (by omega)
 have hn:(ifB (decide (wrap .i64 ((s.length:Int)+1)<wrap .i64 ((c:Int)+1))) (wrap .i64 ((s.length:Int)+1)) (wrap .i64 ((c:Int)+1)))=((c+1:Nat):Int):=by
  rw [e1,e2,Ab (by omega)];show (c:Int)+1=_;omega
 have hm:wrap .i64 (((c+1:Nat):Int) - 1)=(c:Int):=by rw [w64 _ (by omega)];omega
 rw [hn];refine TotP.chk (by simp only [Lc,Ag];omega) ?_;refine Q5w (L:=Quf s) (Q:=(· = Wg s)) (Z1s s c) (fun p=>c - p.2.1.toNat) ?_ (s,0,List.replicate (((c+1:Nat):Int).toNat) []) ⟨0,rfl,by omega,by simp,rfl,Li _⟩
 rintro ⟨t,j,l⟩ ⟨i,hi,hic,hl,hx,ht⟩
 simp only at ht hi hl hx
 subst hi
 have ei:wrap .i64 ((i:Int)+1)=((i+1:Nat):Int):=by rw [w64 _ (by omega)];omega
 have hlen:i+(Wg t).length=c+1:=by
  have:=congrArg List.length hx;rw [Ln,Mi,hsl] at this;omega
 have fin:Wg t = [t]->Stp (Quf s) (fun p=>Z1s s c p∧c - p.2.1.toNat<c - (i:Int).toNat) (· = Wg s)
   (fun (_:Nat) (_:Nat)=>(idx (l:List (List UInt8)) (i:Int)).bind fun _=>cond (decide (0≤(wrap .i64 ((i:Int)+1)))) (cond (Nat.ble 0 ((wrap .i64 ((i:Int)+1)).toNat)&&Nat.ble ((wrap .i64 ((i:Int)+1)).toNat) l.length) (some ((((l:List (List UInt8)).set (Int.toNat (i:Int)) t):List (List UInt8)).take ((wrap .i64 ((i:Int)+1)).toNat))) none) none):=fun e=>by
  rw [ei];refine Stp.idx (Zo (show i<l.length by omega)) ?_;refine Stp.chk (by rw [Ag];omega) ?_;refine Stp.chk (by simp only [Lc,Ls,Lu];omega) ?_;refine Stp.ret ?_;rw [← hx,e,Lu,Lu,Cr,List.take_set,Ll (by omega),Cl (by rw [Mi];omega)];rfl
 show Stp _ _ _ (fun N n=>cond (Q2 .lss (i:Int) (wrap .i64 ((ifB (decide (wrap .i64 ((s.length:Int)+1)<wrap .i64 ((Q3e s (UInt8.ofNat (Int.toNat 47)) 0:Int)+1))) (wrap .i64 ((s.length:Int)+1)) (wrap .i64 ((Q3e s (UInt8.ofNat (Int.toNat 47)) 0:Int)+1))) - 1))) _ _);rw [h47,hcd,hn,hm,Qs];refine Stp.cond (fun h=>?_) (fun h=>?_)
 rotate_left
 ·have h:=Ac h;refine fin ?_
  rcases Qb2 t 47 0 with h3 | ⟨k,h3,_,h4⟩
  ·exact Q8i t 0 h3
  have:=(Qb4 t 0 k (by rw [h3];omega)).1;obtain ⟨a,r,e⟩:=Gp (t.drop (k+1));rw [e] at this;have:=congrArg List.length this;simp only [Ma] at this;omega
 have h:=Aa h
 have go:∀ (t' y:List UInt8),Wg t=y::Wg t'->t'.length≤t.length->Stp (Quf s) (fun p=>Z1s s c p∧c - p.2.1.toNat<c - (i:Int).toNat) (· = Wg s) (fun N n=>Xh N s n t' (wrap .i64 ((i:Int)+1)) (l.set (Int.toNat (i:Int)) y)):=fun t' y h1 h2=>by
  rw [ei];refine Stp.go (L:=Quf s) (t',((i+1:Nat):Int),l.set (Int.toNat (i:Int)) y) ⟨⟨i+1,rfl,by omega,by rw [Mw];exact hl,?_,Mq h2 ht⟩,by simp only [Lu];omega⟩;show (l.set (Int.toNat (i:Int)) y).take (i+1)++Wg t'=_;rw [← hx,h1,Lu,Cr,List.take_set,Ll (by omega),Cl (by rw [Mi];omega),Bf];rfl
 refine Stp.cond (fun h2=>?_) (fun _=>?_)
 ·rw [Uz] at h2;have h2:=Aa h2;refine Stp.idx (Zo (show i<l.length by omega)) ?_;refine Stp.chk (by rw [← h2];rfl) ?_;refine go _ _ ?_ (by simp only [Nc,Mi];omega);subst h2;rfl
 refine Stp.bind (f:=fun N=>Zg N t 47) (V:=fun v=>v=Q9a t 47 0) ⟨_,rfl,.of fun _=>rfl⟩ (fun v hv=>?_);rw [Qs]
 rcases Qb2 t 47 0 with h3 | ⟨k,h3,_,h4⟩
 ·rw [hv,h3];exact Stp.cond (fun _=>fin (Q8i t 0 h3)) (fun h=>nomatch h)
 rw [hv,h3,Ab (by omega)];have hk:=Qb4 t 0 k (by rw [h3];omega)
 have k0:wrap .i64 ((k:Int)+0)=(k:Int):=by rw [w64 _ (by omega)];omega
 have k1:wrap .i64 ((k:Int)+1)=((k+1:Nat):Int):=by rw [w64 _ (by omega)];omega
 refine Stp.cond (fun h=>nomatch h) (fun _=>?_);rw [k0,k1];refine Stp.chk (by rw [Ag];omega) ?_;refine Stp.chk (by simp only [Lc,Ls,Lu];omega) ?_;refine Stp.idx (Zo (show i<l.length by omega)) ?_;refine Stp.chk (by rw [Ag];omega) ?_;refine Stp.chk (by simp only [Lc,Ls,Lu];omega) ?_;refine go _ _ ?_ (by simp only [Nc,Mi];omega);rw [hk.1,Lu,Lu,Mx (Li t.length)];rfl
def Z13 (a:List UInt8):List (List UInt8)->List (List UInt8)
 | [] => [a]
 | x::r=>(a++x)::r
theorem Qxn (s:List UInt8) (hs:s.length≤70000):Tot (fun N=>Wq N s) (Wg s):=by
 refine TotP.tot ?_;unfold Wq
 refine Q5w (L:=fun N n (q:Int×Int×List (List UInt8))=>Zn N s n q.1 q.2.1 q.2.2) (Q:=(· = Wg s)) (fun q=>∃ f i:Nat,q.1=(f:Int)∧q.2.1=(i:Int)∧f≤i∧i≤s.length∧q.2.2.length≤i∧q.2.2++Z13 ((s.take i).drop f) (Wg (s.drop i))=Wg s) (fun q=>s.length - q.2.1.toNat) ?_ (0,0,[]) ⟨0,0,rfl,rfl,Li _,Ms _,Ms _,by
  obtain ⟨a,r,e⟩:=Gp s;show Z13 [] (Wg s)=Wg s
  rw [e];rfl⟩
 rintro ⟨f',i',l⟩ ⟨f,i,h1,h2,hf,hi,hll,hx⟩
 simp only at h1 h2 hll hx
 subst h1;subst h2;show Stp _ _ _ (fun N n=>cond (Q2 .lss (i:Int) (s.length:Int)) _ _);rw [Qs];refine Stp.cond (fun g=>?_) (fun g=>?_)
 ·have g:i<s.length:=by have:=Aa g;omega
  have ei:wrap .i64 ((i:Int)+1)=((i+1:Nat):Int):=by rw [w64 _ (by omega)];omega
  have hd:s.drop i=s[i]::s.drop (i+1):=Bb g
  have hti:(s.take (i+1)).drop f=(s.take i).drop f ++ [s[i]]:=by
   rw [Cr,Lb g,By (by rw [Mi];omega)];rfl
  refine Stp.idx (Zo g) ?_;dsimp only;rw [Zp,ei];refine Stp.cond (fun h=>?_) (fun h=>?_)
  ·have h:s[i].toNat=47:=by have:=Aa h;omega
   have hb:s[i]=47:=Eg.1 h;refine Stp.chk (Ad (by omega)) ?_;refine Stp.chk (Ad (by omega)) ?_;rw [Lu,Lu];refine Stp.chk (by rw [Lc,Ls,Ls];omega) ?_;refine Stp.chk (by rw [Ls];omega) ?_;refine Stp.go (L:=fun N n (q:Int×Int×List (List UInt8))=>Zn N s n q.1 q.2.1 q.2.2) (_,_,_) ⟨⟨i+1,i+1,rfl,rfl,Li _,by omega,by simp only [Ln,Bi];omega,?_⟩,by simp only [Lu];omega⟩;rw [hd,hb,Qc3] at hx;have e0:(s.take (i+1)).drop (i+1) = []:=Cs (by rw [Mi];omega);obtain ⟨a,r,e⟩:=Gp (s.drop (i+1));show (l ++ [(s.take i).drop f])++Z13 ((s.take (i+1)).drop (i+1)) (Wg (s.drop (i+1)))=_;rw [← hx,e0,e,Bf];show l++((s.take i).drop f::(a::r))=l++(((s.take i).drop f ++ [])::(a::r));rw [Nh]
  have h:¬ s[i].toNat=47:=by have:=Ac h;omega
  have hb:(s[i] == 47)=false:=by
   cases hq:(s[i] == 47) with
   | false=>rfl
   | true=>exact absurd (by rw [eq_of_beq hq];rfl) h
  refine Stp.go (L:=fun N n (q:Int×Int×List (List UInt8))=>Zn N s n q.1 q.2.1 q.2.2) (_,_,_) ⟨⟨f,i+1,rfl,rfl,by omega,by omega,by simp only;omega,?_⟩,by simp only [Lu];omega⟩;obtain ⟨a,r,e⟩:=Gp (s.drop (i+1));rw [hd,Q4n hb e] at hx;show l++Z13 ((s.take (i+1)).drop f) (Wg (s.drop (i+1)))=_;rw [← hx,e,hti];show l++((((s.take i).drop f ++ [s[i]])++a)::r)=l++(((s.take i).drop f++(s[i]::a))::r);rw [Bf];rfl
 have g:i=s.length:=by have:=Ac g;omega
 subst g;dsimp only;refine Stp.chk (Ad (by omega)) ?_;rw [Lu];refine Stp.chk (by rw [Lc,Ls,Ls];omega) ?_;refine Stp.chk (by rw [Ls];omega) (Stp.ret ?_);rw [← hx,Ni (Li _)];show _=l ++ [(s.take s.length).drop f ++ []];rw [Nh,Lu]
end
end Go.Av
namespace Go.Av
noncomputable section
end
end Go.Av
namespace Go.Av
noncomputable section
def Qd4 (x:List UInt8) (e:Bool):Bool:=if x = [43] then true else if x = [35] then e else !(Qlp x)
def Qc7:List (List UInt8)->Bool
 | []=>true
 | x::r=>Qd4 x r.isEmpty&&Qc7 r
theorem Qtr {l:List (List UInt8)} {i:Nat} (hi:i<l.length):Qc7 (l.drop i)=(Qd4 l[i] (decide (i+1=l.length))&&Qc7 (l.drop (i+1))):=by
 rw [Bb hi];show (Qd4 l[i] (l.drop (i+1)).isEmpty&&Qc7 (l.drop (i+1)))=_
 congr 2
 rw [Bool.eq_iff_iff,List.isEmpty_iff,Ag,Cf];omega
def Qxy (s:List UInt8):Bool:=decide (s ≠ [])&&Q2v s&&Qc7 (Wg s)
theorem Z0n (N:Nat) (x:List UInt8):Ue N x=some (decide (x = [43])||decide (x = [35])):=by
 unfold Ue;rw [Uz,Uz];cases decide (x = [43])<;>rfl
theorem Z1h (l:List (List UInt8)) (h1:l.length≤70001) (h2:∀ x∈l,x.length≤70000):Tot (fun N=>Um N l) (Qc7 l):=by
 refine TotP.tot ?_;have hm:=ml7;unfold Um;refine Q4a (L:=fun N n i=>Qv N l n i) l.length (fun i=>Qc7 (l.drop i)=Qc7 l) (fun i hi hJ=>?_) (fun hJ=>?_) rfl
 ·have hla:=Qtr hi;rw [hJ] at hla;have hx:=h2 _ (Mn hi);show Stp _ _ _ (fun N n=>cond (Q2 .lss (i:Int) ((Qi cS l).length:Int)) _ _);rw [Qy,Qs];refine Stp.cond (fun _=>?_) (fun h=>by have:=Ac h;omega);refine Stp.idx (Zo hi) ?_
  have ei:wrap .i64 ((i:Int)+1)=((i+1:Nat):Int):=by rw [w64 _ (by omega)];omega
  have go:Qd4 l[i] (decide (i+1=l.length))=true->Stp (fun N n i=>Qv N l n i) (fun s=>s=((i+1:Nat):Int)∧Qc7 (l.drop (i+1))=Qc7 l) (· = Qc7 l) (fun N n=>Qv N l n (wrap .i64 ((i:Int)+1))):=fun e=>by
   rw [ei];exact Stp.go (L:=fun N n i=>Qv N l n i) _ ⟨rfl,by rw [hla,e];rfl⟩
  have no:Qd4 l[i] (decide (i+1=l.length))=false->Stp (fun N n i=>Qv N l n i) (fun s=>s=((i+1:Nat):Int)∧Qc7 (l.drop (i+1))=Qc7 l) (· = Qc7 l) (fun _ _=>some false):=fun e=>Stp.ret (by rw [hla,e];rfl);have hc:Tot (fun N=>Zs N l[i]) (Qlp l[i]):=Q51 _ (by omega);rw [Uz];refine Stp.cond (fun g=>?_) (fun g=>?_)
  ·have g:=Aa g
   have x1:l[i] ≠ [43]:=by rw [g];decide
   have hX:Qd4 l[i] (decide (i+1=l.length))=decide (i+1=l.length):=by unfold Qd4;rw [Ae x1,Af g]
   rw [ei,Zp];refine Stp.cond (fun g1=>no ?_) (fun g1=>?_)
   ·rw [hX];exact Ab (by have:=Ac (bN g1);omega)
   have hX2:Qd4 l[i] (decide (i+1=l.length))=true:=by rw [hX];exact Ad (by have:=Aa (bP g1);omega)
   refine Stp.bind (V:=(· = true)) ⟨_,rfl,.of fun N=>by rw [Z0n,g];rfl⟩ (fun w hw=>?_);subst hw;refine Stp.cond (fun h=>nomatch h) (fun _=>?_);have:=go hX2
   rwa [ei] at this
  have g:=Ac g;refine Stp.bind (V:=(· = decide (l[i] = [43]))) ⟨_,rfl,.of fun N=>by rw [Z0n,Ab g,Cg]⟩ (fun w hw=>?_);subst hw;refine Stp.cond (fun g1=>?_) (fun g1=>go ?_)
  ·have g1:=Ac (bN g1)
   have hX:Qd4 l[i] (decide (i+1=l.length)) = !(Qlp l[i]):=by unfold Qd4;rw [Ae g1,Ae g]
   refine Stp.bind (V:=(· = Qlp l[i])) ⟨_,rfl,hc⟩ (fun w hw=>?_);subst hw;exact Stp.cond (fun g2=>no (by rw [hX,g2];rfl)) (fun g2=>go (by rw [hX,g2];rfl))
  unfold Qd4;rw [Af (Aa (bP g1))]
 show Stp _ _ _ (fun N n=>cond (Q2 .lss (l.length:Int) ((Qi cS l).length:Int)) _ _);rw [Qy,Qs,Ab (by omega)];refine Stp.ret ?_;rw [← hJ,Ni (Li _)];rfl
theorem Qhd {s:List UInt8} (hs:s.length≤70000):(Wg s).length≤70001∧∀ x∈Wg s,x.length≤70000:=by
 have:=Qb7 s 47 0;exact ⟨by rw [Q88];omega,fun x hx=>Mq (Qda s x hx) hs⟩
theorem Qw9 (s:List UInt8) (hs:s.length≤70000):Tot (fun N=>Wc N s) (Qxy s):=by
 refine TotP.tot ?_;have hb:=Qhd hs;unfold Wc Qxy;refine TotP.bindE (Qec s) ?_;refine TotP.cond (fun g=>?_) (fun g => .ret (by rw [g];rfl));rw [g];refine TotP.bindE (Qvu s hs) ?_;exact TotP.bindE (Z1h _ hb.1 hb.2) (.ret rfl)
theorem Qwq (s:List UInt8) (hs:s.length≤70000):Tot (fun N=>X1 N s) (Qxy s):=by
 refine TotP.tot ?_;have hb:=Qhd hs;have hm:=ml7;unfold X1 Qxy;rw [Uz];refine TotP.cond (fun g => .ret (by rw [Ab (fun x=>x (Aa g))];rfl)) (fun g=>?_);rw [Ad (Ac g),Br];refine TotP.bindE (Q5n s) ?_;refine TotP.cond (fun g => .ret (by rw [bN g];rfl)) (fun g=>?_);rw [bP g,Br];refine TotP.bindE (Qxn s hs) ?_;generalize Wg s=l at hb;obtain ⟨h1,h2⟩:=hb;refine Q4a (L:=fun N n i=>Qo N l n i) l.length (fun i=>Qc7 (l.drop i)=Qc7 l) (fun i hi hJ=>?_) (fun hJ=>?_) rfl
 ·have hla:=Qtr hi;rw [hJ] at hla;have hx:=h2 _ (Mn hi);show Stp _ _ _ (fun N n=>cond (Q2 .lss (i:Int) ((Qi cS l).length:Int)) _ _);rw [Qy,Qs];refine Stp.cond (fun _=>?_) (fun h=>by have:=Ac h;omega)
  have ei:wrap .i64 ((i:Int)+1)=((i+1:Nat):Int):=by rw [w64 _ (by omega)];omega
  have go:Qd4 l[i] (decide (i+1=l.length))=true->Stp (fun N n i=>Qo N l n i) (fun s=>s=((i+1:Nat):Int)∧Qc7 (l.drop (i+1))=Qc7 l) (· = Qc7 l) (fun N n=>Qo N l n (wrap .i64 ((i:Int)+1))):=fun e=>by
   rw [ei];exact Stp.go (L:=fun N n i=>Qo N l n i) _ ⟨rfl,by rw [hla,e];rfl⟩
  have no:Qd4 l[i] (decide (i+1=l.length))=false->Stp (fun N n i=>Qo N l n i) (fun s=>s=((i+1:Nat):Int)∧Qc7 (l.drop (i+1))=Qc7 l) (· = Qc7 l) (fun _ _=>some false):=fun e=>Stp.ret (by rw [hla,e];rfl);have a43:Tot (fun N=>Yi N l[i] 43) (l[i].any fun b=>b.toNat == 43):=Qf9 _ (by omega) 43;have a35:Tot (fun N=>Yi N l[i] 35) (l[i].any fun b=>b.toNat == 35):=Qf9 _ (by omega) 35;have hh:=Qop l[i];refine Stp.idx (Zo hi) ?_;refine Stp.bind (V:=(· = l[i].any fun b=>b.toNat == 43)) ⟨_,rfl,a43⟩ (fun w hw=>?_);subst hw;refine Stp.cond (fun g43=>?_) (fun g43=>?_)
  ·refine Stp.idx (Zo hi) ?_;rw [Q5j];refine Stp.cond (fun g=>no ?_) (fun g=>?_)
   ·have g:=Aa g
    by_cases h35:l[i] = [35]
    ·rw [h35] at g43;exact absurd g43 (by decide)
    unfold Qd4;rw [Ae g,Ae h35,hh,g43];rfl
   have g:l[i] = [43]:=Decidable.byContradiction fun x=>Ac g x
   have hX:Qd4 l[i] (decide (i+1=l.length))=true:=by unfold Qd4;rw [Af g]
   refine Stp.idx (Zo hi) ?_;refine Stp.bind (V:=(· = false)) ⟨_,by rw [g];decide,a35⟩ (fun w hw=>?_);subst hw;exact Stp.cond (fun h=>nomatch h) (fun _=>go hX)
  have n43:l[i] ≠ [43]:=fun x=>by rw [x] at g43;exact absurd g43 (by decide)
  refine Stp.idx (Zo hi) ?_;refine Stp.bind (V:=(· = l[i].any fun b=>b.toNat == 35)) ⟨_,rfl,a35⟩ (fun w hw=>?_);subst hw;refine Stp.cond (fun g35=>?_) (fun g35=>go ?_)
  ·refine Stp.idx (Zo hi) ?_;rw [Q5j];refine Stp.cond (fun g=>no ?_) (fun g=>?_)
   ·have g:=Aa g;unfold Qd4;rw [Ae n43,Ae g,hh,g35,Bool.or_true];rfl
   have g:l[i] = [35]:=Decidable.byContradiction fun x=>Ac g x
   have hX:Qd4 l[i] (decide (i+1=l.length))=decide (i+1=l.length):=by unfold Qd4;rw [Ae n43,Af g]
   rw [ei,Qs];refine Stp.cond (fun g1=>no ?_) (fun g1=>?_)
   ·rw [hX];exact Ab (by have:=Aa g1;omega)
   have:=go (by rw [hX];exact Ad (by have:=Ac g1;omega))
   rwa [ei] at this
  have n35:l[i] ≠ [35]:=fun x=>by rw [x] at g35;exact absurd g35 (by decide)
  unfold Qd4;rw [Ae n43,Ae n35,hh,g43,g35];rfl
 show Stp _ _ _ (fun N n=>cond (Q2 .lss (l.length:Int) ((Qi cS l).length:Int)) _ _);rw [Qy,Qs,Ab (by omega)];refine Stp.ret ?_;rw [← hJ,Ni (Li _)];rfl
end
end Go.Av
namespace Go.Av
noncomputable section
def Qml (k:Int):Bool:=decide ((0≤k∧k≤29∧k≠3∧k≠17∧k≠25)∨k=254)
theorem Qtu (N:Nat) (k:Int):V1 N k=some (Qml k):=by
 unfold V1 Qml;simp only [Zp,Jm,Vz]
 by_cases h3:k=3
 ·subst h3;rfl
 by_cases h17:k=17
 ·subst h17;rfl
 by_cases h25:k=25
 ·subst h25;rfl
 by_cases h254:k=254
 ·subst h254;rfl
 by_cases g:k≥0<;>by_cases l:k≤29<;>simp [h3,h17,h25,h254,g,l]<;>omega
theorem Qul (N:Nat) (k:Int):Ye N k=some (Qml k):=by
 unfold Ye Qml;simp only [Zp,Jm,Vz]
 by_cases h3:k=3
 ·subst h3;rfl
 by_cases h17:k=17
 ·subst h17;rfl
 by_cases h25:k=25
 ·subst h25;rfl
 by_cases h254:k=254
 ·subst h254;rfl
 by_cases g:k≥0<;>by_cases l:k≤29<;>simp [h3,h17,h25,h254,g,l]<;>omega
def Qfs (f:Zh):Prop:=(-1≤f.QoS∧f.QoS≤2)∧0≤f.Type'∧f.Type'≤2
instance (f:Zh):Decidable (Qfs f):=by unfold Qfs;infer_instance
def Qxp (f:Zh):Int:=(if f.Dup then 128 else 0)+32 * (if f.QoS<0 then 3 else f.QoS)+(if f.Retain then 16 else 0)+(if f.Will then 8 else 0)+(if f.Clean then 4 else 0)+f.Type'
theorem Qu3 {f:Zh} (h:Qfs f):0≤Qxp f∧Qxp f≤255:=by
 obtain ⟨⟨h1,h2⟩,h3,h4⟩:=h;unfold Qxp
 repeat' split
 all_goals omega
theorem Qvi (N:Nat) (f:Zh):V0 N f=some (if Qfs f then (Qxp f,0) else (0,7)):=by
 obtain ⟨d,q,r,w,c,t⟩:=f
 by_cases h:Qfs ⟨d,q,r,w,c,t⟩
 ·rw [Af h];obtain ⟨⟨h1,h2⟩,h3,h4⟩:=h
  have hq:q = -1∨q=0∨q=1∨q=2:=by simp only at h1 h2;omega
  have ht:t=0∨t=1∨t=2:=by simp only at h3 h4;omega
  have e:∀ x,V0 N x=V0 0 x:=fun _=>rfl;rw [e];clear h1 h2 h3 h4
  rcases hq with rfl | rfl | rfl | rfl<;>rcases ht with rfl | rfl | rfl<;>cases d<;>cases r<;>cases w<;>cases c<;>decide
 rw [Ae h];unfold Qfs at h;unfold V0;simp only [Qs,U3] at h ⊢
 by_cases h1:q < -1
 ·rw [Ad h1];rfl
 by_cases h2:q>2
 ·rw [Ab h1,Ad h2];rfl
 by_cases h3:t<0
 ·rw [Ab h1,Ab h2,Ad h3];rfl
 have h4:t>2:=by omega
 rw [Ab h1,Ab h2,Ab h3,Ad h4];rfl
theorem Qyq (N:Nat) (f:Zh):Yp N f=some (if Qfs f then (Qxp f,0) else (0,7)):=by
 obtain ⟨d,q,r,w,c,t⟩:=f
 by_cases h:Qfs ⟨d,q,r,w,c,t⟩
 ·rw [Af h];obtain ⟨⟨h1,h2⟩,h3,h4⟩:=h
  have hq:q = -1∨q=0∨q=1∨q=2:=by simp only at h1 h2;omega
  have ht:t=0∨t=1∨t=2:=by simp only at h3 h4;omega
  have e:∀ x,Yp N x=Yp 0 x:=fun _=>rfl;rw [e];clear h1 h2 h3 h4
  rcases hq with rfl | rfl | rfl | rfl<;>rcases ht with rfl | rfl | rfl<;>cases d<;>cases r<;>cases w<;>cases c<;>decide
 rw [Ae h];unfold Qfs at h;unfold Yp;simp only [Qs,U3] at h ⊢
 by_cases h1:q < -1
 ·rw [Ad h1];rfl
 by_cases h2:q>2
 ·rw [Ab h1,Ad h2];rfl
 by_cases h3:t<0
 ·rw [Ab h1,Ab h2,Ad h3];rfl
 have h4:t>2:=by omega
 rw [Ab h1,Ab h2,Ab h3,Ad h4];rfl
def Qp7 (k:Int):Zh:=if k=4 then ⟨false,0,false,true,true,0⟩ else if k=7∨k=26 then ⟨false,1,true,false,false,0⟩ else if k=19 then ⟨false,1,false,false,false,0⟩ else if k=12 then ⟨true,1,true,false,false,1⟩ else if k=18 then ⟨true,1,false,false,false,1⟩ else if k=20 then ⟨false,0,false,false,false,1⟩ else ⟨false,0,false,false,false,0⟩
theorem Qoj (k:Int) {x y:Option Zh} (h:∀ j ∈ [(4:Int),7,26,19,12,18,20],k=j->x=y) (h0:(∀ j ∈ [(4:Int),7,26,19,12,18,20],k≠j)->x=y):x=y:=by
 by_cases e:∀ j ∈ [(4:Int),7,26,19,12,18,20],k≠j
 ·exact h0 e
 refine Lt fun n=>e fun j hj ej=>n (h j hj ej)
theorem Z24 (N:Nat) (k:Int):Jb N k=some (Qp7 k):=by
 refine Qoj k (fun j hj e=>?_) (fun h=>?_)
 ·subst e;simp only [Lx,Mz,or_false] at hj
  rcases hj with rfl | rfl | rfl | rfl | rfl | rfl | rfl<;>rfl
 simp only [Lx,Mz,or_false,forall_eq_or_imp,forall_eq,ne_eq] at h;unfold Jb Qp7;simp [Zp,h]
theorem Z1e (N:Nat) (k:Int):Vi N k=some (Qp7 k):=by
 refine Qoj k (fun j hj e=>?_) (fun h=>?_)
 ·subst e;simp only [Lx,Mz,or_false] at hj
  rcases hj with rfl | rfl | rfl | rfl | rfl | rfl | rfl<;>rfl
 simp only [Lx,Mz,or_false,forall_eq_or_imp,forall_eq,ne_eq] at h;unfold Vi Qp7;simp [Zp,h]
def Qji (k:Int) (f:Zh):Bool:=decide (Qfs f)&&(((Qp7 k).Dup || !f.Dup)&&((decide ((Qp7 k).QoS=1)||decide (f.QoS=0))&&(((Qp7 k).Retain || !f.Retain)&&(((Qp7 k).Will || !f.Will)&&(((Qp7 k).Clean || !f.Clean)&&((decide ((Qp7 k).Type'=1)||decide (f.Type'=0))&&(decide (f.QoS≥0)||decide (k=12))))))))
theorem cJ {α β:Type} (g : α->β) (b:Bool) (x y : α):cond b (g x) (g y)=g (cond b x y):=by cases b<;>rfl
theorem Z7z (N:Nat) (k:Int) (f:Zh):Gu N k f=some (Qji k f):=by
 unfold Gu Qji;rw [Qvi]
 by_cases h:Qfs f
 rotate_left
 ·rw [Ae h,Ab h];rfl
 rw [Af h,Ad h,Lf];show cond (Q2 .lss f.QoS 0) (We N k f (Q2 .neq k 12)) (We N k f false)=_;rw [cJ (We N k f)];unfold We;rw [Z24,Lf];generalize Qp7 k=u;rw [cJ (Vu N f u)];unfold Vu;rw [cJ (U4 N f u _)];unfold U4;rw [cJ (U2 N f u _ _)];unfold U2;rw [cJ (U5 N f u _ _ _)];unfold U5;rw [cJ (Vv N f u _ _ _ _)];unfold Vv;rw [cJ (U0 N _ _ _ _ _)];unfold U0;rw [Zp,Zp,Qs,Je]
 have b1:∀ a x:Bool,(cond a false x == false)=(a || !x):=by decide
 have b2:∀ (P:Bool) (x:Int),(cond P 0 x == 0)=(P||decide (x=0)):=fun P x=>by cases P<;>simp [Bool.beq_eq_decide_eq]
 rw [b1,b1,b1,b1,b2,b2]
 have b3:cond (decide (f.QoS<0)) (decide (k≠12)) false = !(decide (f.QoS≥0)||decide (k=12)):=by
  by_cases x:f.QoS<0<;>by_cases y:k=12<;>simp [x,y]<;>omega
 rw [b3];generalize (u.Dup || !f.Dup)=a1;generalize (decide (u.QoS=1)||decide (f.QoS=0))=a2;generalize (u.Retain || !f.Retain)=a3;generalize (u.Will || !f.Will)=a4;generalize (u.Clean || !f.Clean)=a5;generalize (decide (u.Type'=1)||decide (f.Type'=0))=a6;generalize (decide (f.QoS≥0)||decide (k=12))=a7;revert a1 a2 a3 a4 a5 a6 a7
 decide
theorem Z80 (N:Nat) (k:Int) (f:Zh):Xb N k f=some (Qji k f):=by
 unfold Xb Qji;rw [Z1e,Qyq,Lf,Lf]
 by_cases h:Qfs f
 rotate_left
 ·rw [Ae h,Ab h];rfl
 rw [Af h,Ad h]
 have cO:∀ (a b:Bool) (x y:Option Bool),cond a x (cond b x y)=cond (a||b) x y:=fun a b x y=>by cases a<;>rfl
 have cT:∀ a b:Bool,cond a (some true) (some b)=some (a||b):=fun a b=>by cases a<;>rfl
 have cA:∀ a b:Bool,cond a (some b) (some false)=some (a&&b):=fun a b=>by cases a<;>rfl
 have cB:∀ a b x:Bool,cond a (some x) (some (b&&x))=some ((a||b)&&x):=fun a b x=>by cases a<;>rfl
 simp only [Zp,Jm,cO,cT,cA,cB,decide_true,Br,Ai]
end
end Go.Av
namespace Go.Av
noncomputable section
def Q9s (n k:Int):Bool:=decide (n<0)||decide (n≥k)
theorem lkN {α:Type} (b:Bool) (n k:Int) (g:Bool->α):cond b (some (g true)) (cond (decide (n<0)) (some (g true)) (some (g (decide (n≥k)))))=some (g (b||Q9s n k)):=by
 unfold Q9s;cases b<;>cases decide (n<0)<;>rfl
section
variable (N:Nat) (c:Q0) (h:c.do'=2)
include h
theorem Qmr:Zr N c=some ((),⟨2,{ c.m with Gateway:=0 },c.out,c.bad||Q9s c.m.Gateway 256⟩):=by
 unfold Zr;rw [h];exact lkN c.bad c.m.Gateway 256 fun b=>((),(⟨2,{ c.m with Gateway:=0 },c.out,b⟩:Q0))
theorem Qoz:Yb N c=some ((),⟨2,{ c.m with Radius:=0 },c.out,c.bad||Q9s c.m.Radius 256⟩):=by
 unfold Yb;rw [h];exact lkN c.bad c.m.Radius 256 fun b=>((),(⟨2,{ c.m with Radius:=0 },c.out,b⟩:Q0))
theorem Qvn:Zb N c=some ((),⟨2,{ c.m with Code:=0 },c.out,c.bad||Q9s c.m.Code 256⟩):=by
 unfold Zb;rw [h];exact lkN c.bad c.m.Code 256 fun b=>((),(⟨2,{ c.m with Code:=0 },c.out,b⟩:Q0))
theorem Qpk:Y3 N c=some ((),⟨2,{ c.m with Time:=0 },c.out,c.bad||Q9s c.m.Time 65536⟩):=by
 unfold Y3;rw [h];exact lkN c.bad c.m.Time 65536 fun b=>((),(⟨2,{ c.m with Time:=0 },c.out,b⟩:Q0))
theorem Qz3:Za N c=some ((),⟨2,{ c.m with TopicID:=0 },c.out,c.bad||Q9s c.m.TopicID 65536⟩):=by
 unfold Za;rw [h];exact lkN c.bad c.m.TopicID 65536 fun b=>((),(⟨2,{ c.m with TopicID:=0 },c.out,b⟩:Q0))
theorem Z04:Qu N c=some ((),⟨2,{ c.m with MsgID:=0 },c.out,c.bad||Q9s c.m.MsgID 65536⟩):=by
 unfold Qu;rw [h];exact lkN c.bad c.m.MsgID 65536 fun b=>((),(⟨2,{ c.m with MsgID:=0 },c.out,b⟩:Q0))
theorem Qij:Zu N c=some ((),⟨2,c.m,c.out,c.bad⟩):=by
 unfold Zu;rw [h];cases hb:c.bad<;>rfl
theorem Qjw:Qr N c=some ((),⟨2,c.m,c.out,c.bad⟩):=by
 unfold Qr;rw [Qvi,Lf];obtain ⟨d,m,o,b⟩:=c
 simp only at h
 subst h;rfl
theorem Qig:Qa N c=some ((),⟨2,{ c.m with Name := [] },c.out,c.bad⟩):=by
 unfold Qa;rw [h];rfl
theorem Qvr:Y2 N c=some ((),⟨2,{ c.m with Data := [] },c.out,c.bad⟩):=by
 unfold Y2;rw [h];rfl
theorem Qxf:X3 N c=some ((),⟨2,{ c.m with Name := [] },c.out,c.bad⟩):=by
 unfold X3;rw [h,Uz]
 by_cases hn:c.m.Name = []
 ·rw [Ad hn];obtain ⟨d,m,o,b⟩:=c
  simp only at h hn
  subst h;show some ((),(⟨2,m,o,b⟩:Q0))=some ((),⟨2,{ m with Name := [] },o,b⟩);rw [← hn]
 rw [Ab hn,Qjw N c h,Lf];show (Qa N ⟨2,c.m,c.out,c.bad⟩).bind _=_;rw [Qig N _ rfl];rfl
theorem Qtd:Y4 N c=if c.m.Flags.Type'=0 then some ((),⟨2,{ c.m with Name := [] },c.out,c.bad⟩) else some ((),⟨2,{ c.m with TopicID:=0 },c.out,c.bad||Q9s c.m.TopicID 65536⟩):=by
 unfold Y4;rw [Zp,Qig N c h,Qz3 N c h]
 by_cases g:c.m.Flags.Type'=0
 ·rw [Ad g,Af g];rfl
 rw [Ab g,Ae g];rfl
theorem Qja:Yo N c=if c.m.Timed=true then some ((),⟨2,{ c.m with Time:=0,Timed:=false },c.out,c.bad||Q9s c.m.Time 65536⟩) else some ((),⟨2,{ c.m with Timed:=false },c.out,c.bad⟩):=by
 unfold Yo;rw [h,Qpk N c h];cases ht:c.m.Timed<;>rfl
end
def Vd (m:Yw):List Int:=
 if m.Type'=0 then [3,6] else if m.Type'=1 then [4] else if m.Type'=2 then [3,9] else if m.Type'=4 then [1,2,6,9] else if m.Type'=5∨m.Type'=27∨m.Type'=29 then [5] else
 if m.Type'=7∨m.Type'=26 then (if m.Name = [] then [] else [1,9]) else if m.Type'=9∨m.Type'=28 then [10] else if m.Type'=10 then [7,8,9] else if m.Type'=11∨m.Type'=13 then [7,8,5] else
 if m.Type'=12 then [1,7,8,10] else if m.Type'=14∨m.Type'=15∨m.Type'=16∨m.Type'=21 then [8] else if m.Type'=18∨m.Type'=20 then (if m.Flags.Type'=0 then [1,8,9] else [1,8,7]) else
 if m.Type'=19 then [1,7,8,5] else if m.Type'=22 then [9] else if m.Type'=24 then (if m.Timed=true then [6] else []) else []
def Q6q:List Int := [0,1,2,4,5,6,7,8,9,10,11,12,13,14,15,16,18,19,20,21,22,23,24,26,27,28,29]
theorem Qtv {k:Int} (h:Qml k=true) (h2:k≠254):k∈Q6q:=by
 unfold Qml at h;have:=Aa h;simp only [Q6q,Lx,Mz,or_false];omega
def Z0e (m:Yw):Yw:=⟨m.Type',m.Flags,if 3∈Vd m then 0 else m.Gateway,if 4∈Vd m then 0 else m.Radius,if 6∈Vd m then 0 else m.Time,if m.Type'=24 then false else m.Timed,if 7∈Vd m then 0 else m.TopicID,if 8∈Vd m then 0 else m.MsgID,if 5∈Vd m then 0 else m.Code,if 9∈Vd m then [] else m.Name,if 10∈Vd m then [] else m.Data⟩
def bdN (m:Yw):Bool:=(decide (3∈Vd m)&&Q9s m.Gateway 256)||(decide (4∈Vd m)&&Q9s m.Radius 256)||(decide (6∈Vd m)&&Q9s m.Time 65536)||(decide (7∈Vd m)&&Q9s m.TopicID 65536)||(decide (8∈Vd m)&&Q9s m.MsgID 65536)||(decide (5∈Vd m)&&Q9s m.Code 256)
theorem Qgt (m:Yw) (hk:m.Type'∈Q6q):Tot (fun N=>Ql N ⟨2,m,[],false⟩) ((),⟨2,Z0e m,[],bdN m⟩):=by
 refine ⟨1,fun N hN=>?_⟩;obtain ⟨M,rfl⟩:∃ M,N=M+1:=⟨N - 1,by omega⟩;obtain ⟨t,f,g,r,ti,td,tp,mi,co,nm,da⟩:=m;simp only [Q6q,Lx,Mz,or_false] at hk
 rcases hk with rfl | rfl | rfl | rfl | rfl | rfl | rfl | rfl | rfl | rfl | rfl | rfl | rfl | rfl | rfl | rfl | rfl | rfl | rfl | rfl | rfl | rfl | rfl | rfl | rfl | rfl | rfl
 all_goals simp [Ql,Zp,Qmr,Qoz,Qvn,Qpk,Qz3,Z04,Qij,Qjw,Qig,Qvr,Qxf,Qtd,Qja,X6,Z0e,bdN,Vd]
 all_goals (split<;>first | (simp_all;done) | (simp_all;exact Bool.or_comm _ _))
end
end Go.Av
namespace Go.Av
noncomputable section
theorem Qty (N:Nat) (l:List Int) (p:Int) (hl:l.length≤100):∀ (k i:Nat),i≤l.length->l.length<k+i->Ym N l p k (i:Int)=some (decide (p∈l.drop i))
 | 0,i,h1,h2=>by omega
 | k+1,i,h1,h2=>by
  rw [Ym,Qy,Qs]
  by_cases hi:i<l.length
  ·rw [Ad (show (i:Int)<(l.length:Int) by omega)];show (idx l (i:Int)).bind _=_;rw [show idx l (i:Int)=some l[i] from by show l[i]? = _;exact Lb hi,Lf,Zp,Bb hi]
   by_cases e:l[i]=p
   ·rw [Ad e,e];simp
   rw [Ab e];show Ym N l p k (wrap .i64 ((i:Int)+1))=_;rw [IntKind.wrap_i64,show ((i:Int)+1+9223372036854775808) % 18446744073709551616 - 9223372036854775808=((i+1:Nat):Int) by omega,Qty N l p hl k (i+1) (by omega) (by omega)]
   congr 1
   simp only [Lx,decide_eq_decide];exact ⟨.inr,fun h=>h.resolve_left fun x=>e x.symm⟩
  rw [Ab (by omega),show l.drop i = [] from Cf.2 (by omega)];rfl
theorem Z4w {N:Nat} (hN:100<N) {l:List Int} (p:Int) (hl:l.length≤100):Zm N l p=some (decide (p∈l)):=Qty N l p hl N 0 (by omega) (by omega)
def Q80 (n most:Int) (u:Bool):Bool:=decide (n≥0)&&(decide (n≤most)&&(u||decide (n=0)))
theorem Z2k (N:Nat) (n most:Int) (u:Bool):Ya N n most u=some (Q80 n most u):=by
 unfold Ya Q80;rw [Jm,Vz,Zp];cases decide (n≥0)<;>cases decide (n≤most)<;>cases u<;>rfl
def Qye (m:Yw):Bool:=decide (m.Type'=11∨m.Type'=13∨m.Type'=19)
def Qya (m:Yw):Bool:=decide (m.Type'=12)&&decide (m.Flags.QoS<1)
def Qkw (m:Yw):Bool := !(decide (8∈Vd m)&&(!Qye m && !(decide (m.MsgID=0) == Qya m)))&&(Q80 m.Gateway 255 (decide (3∈Vd m))&&(Q80 m.Radius 255 (decide (4∈Vd m))&&(Q80 m.Code 255 (decide (5∈Vd m))&&(Q80 m.Time 65535 (decide (6∈Vd m))&&(Q80 m.TopicID 65535 (decide (7∈Vd m))&&(Q80 m.MsgID 65535 (decide (8∈Vd m)) &&
 ((decide (9∈Vd m)||decide (m.Name = []))&&((decide (10∈Vd m)||decide (m.Data = []))&&(decide (m.Type'=24) || !m.Timed)))))))))
theorem Qz4 {P:Prop} [Decidable P] {a b:List Int} (ha:a.length≤100) (hb:b.length≤100):(if P then a else b).length≤100:=by split<;>assumption
theorem Qt1 (m:Yw):(Vd m).length≤100:=by
 unfold Vd
 repeat' first | exact Lw rfl | refine Qz4 ?_ ?_
theorem Qtp (N:Nat) (m:Yw) (hk:m.Type'∈Q6q):W5 N m=some (Vd m):=by
 obtain ⟨t,f,g,r,ti,td,tp,mi,co,nm,da⟩:=m;simp only [Q6q,Lx,Mz,or_false] at hk
 rcases hk with rfl | rfl | rfl | rfl | rfl | rfl | rfl | rfl | rfl | rfl | rfl | rfl | rfl | rfl | rfl | rfl | rfl | rfl | rfl | rfl | rfl | rfl | rfl | rfl | rfl | rfl | rfl
 all_goals simp [W5,Zp,Uz,Q5j,Vd]
 all_goals (split<;>simp_all)
theorem Qs5 {N:Nat} (hN:100<N) (m:Yw) (hk:m.Type'∈Q6q):Qw N m=some (Qkw m):=by
 have hl:=Qt1 m;unfold Qw;rw [Qtp N m hk,Lf]
 have j2:∀ s,Zw N m (Vd m) s=some (!s&&(Q80 m.Gateway 255 (decide (3∈Vd m))&&(Q80 m.Radius 255 (decide (4∈Vd m))&&(Q80 m.Code 255 (decide (5∈Vd m))&&(Q80 m.Time 65535 (decide (6∈Vd m))&&(Q80 m.TopicID 65535 (decide (7∈Vd m))&&(Q80 m.MsgID 65535 (decide (8∈Vd m)) &&
   ((decide (9∈Vd m)||decide (m.Name = []))&&((decide (10∈Vd m)||decide (m.Data = []))&&(decide (m.Type'=24) || !m.Timed)))))))))):=fun s=>by
  unfold Zw;simp only [Z4w hN _ hl,Z2k,Lf,Zp,Uz];generalize Q80 m.Gateway 255 _=a1;generalize Q80 m.Radius 255 _=a2;generalize Q80 m.Code 255 _=a3;generalize Q80 m.Time 65535 _=a4;generalize Q80 m.TopicID 65535 _=a5;generalize Q80 m.MsgID 65535 _=a6;generalize decide (9∈Vd m)=a7;generalize decide (m.Name = [])=a8;generalize decide (10∈Vd m)=a9;generalize decide (m.Data = [])=a10;generalize decide (m.Type'=24)=a11;generalize m.Timed=a12;cases s
  ·cases a1<;>cases a2<;>cases a3<;>cases a4<;>cases a5<;>cases a6<;>cases a7<;>cases a8<;>cases a9<;>cases a10<;>cases a11<;>rfl
  rfl
 have j1:∀ z a,Zx N m (Vd m) z a=Zw N m (Vd m) (decide (8∈Vd m)&&(!a && !(decide (m.MsgID=0) == z))):=fun z a=>by
  unfold Zx;rw [Z4w hN _ hl,Lf,Zp];cases decide (8∈Vd m)<;>cases a<;>rfl
 have j0:∀ z,Zi N m (Vd m) z=Zx N m (Vd m) z (Qye m):=fun z=>by
  unfold Zi Qye;rw [Zp,Zp,Zp]
  by_cases h1:m.Type'=11
  ·simp [h1]
  by_cases h2:m.Type'=13
  ·simp [h2]
  simp [h1,h2]
 have e:cond (Q2 .eql m.Type' 12) (Zi N m (Vd m) (Q2 .lss m.Flags.QoS 1)) (Zi N m (Vd m) false)=Zi N m (Vd m) (Qya m):=by
  unfold Qya;rw [Zp,Qs];cases decide (m.Type'=12)<;>rfl
 rw [e,j0,j1,j2];rfl
def Qyt (m:Yw):Bool:=if m.Type'=10∨m.Type'=14∨m.Type'=15∨m.Type'=16∨m.Type'=21∨m.Type'=18∨m.Type'=20 then decide (m.MsgID≠0) else if m.Type'=12 then (decide (m.MsgID≠0) == decide (m.Flags.QoS>0)) else true
theorem Z7f (N:Nat) (m:Yw) (hk:m.Type'∈Q6q):Wz N m=some (Qyt m):=by
 obtain ⟨t,f,g,r,ti,td,tp,mi,co,nm,da⟩:=m;simp only [Q6q,Lx,Mz,or_false] at hk
 rcases hk with rfl | rfl | rfl | rfl | rfl | rfl | rfl | rfl | rfl | rfl | rfl | rfl | rfl | rfl | rfl | rfl | rfl | rfl | rfl | rfl | rfl | rfl | rfl | rfl | rfl | rfl | rfl
 all_goals simp [Wz,Zp,Je,U3,Qyt]
theorem Z06 (m:Yw) (hk:m.Type'∈Q6q):Qyt m = !(decide (8∈Vd m)&&(!Qye m && !(decide (m.MsgID=0) == Qya m))):=by
 obtain ⟨t,f,g,r,ti,td,tp,mi,co,nm,da⟩:=m
 have q:decide (f.QoS>0) = !decide (f.QoS<1):=by
  by_cases h:f.QoS>0
  ·rw [Ad h,Ab (by omega)];rfl
  rw [Ab h,Ad (by omega)];rfl
 simp only [Q6q,Lx,Mz,or_false] at hk
 rcases hk with rfl | rfl | rfl | rfl | rfl | rfl | rfl | rfl | rfl | rfl | rfl | rfl | rfl | rfl | rfl | rfl | rfl | rfl | rfl | rfl | rfl | rfl | rfl | rfl | rfl | rfl | rfl
 all_goals simp [Qyt,Vd,Qye,Qya,q]
 all_goals try (split<;>simp)
 all_goals (cases decide (mi=0)<;>cases decide (f.QoS<1)<;>simp_all)
theorem Qd2 {n:Int} {b k:Int} {u:Bool} (hb:b+1=k) (hb0:0≤b):Q80 n b u=(!(u&&Q9s n k)&&decide ((if u=true then 0 else n)=0)):=by
 unfold Q80 Q9s;subst hb
 cases u with
 | true=>
  by_cases h1:n<0
  ·simp [h1,show ¬ (0≤n) by omega]
  by_cases h2:n≤b
  ·simp [h1,h2,show 0≤n by omega,show ¬ (b+1≤n) by omega]
  simp [h1,h2,show b+1≤n by omega]
 | false=>
  by_cases h:n=0
  ·subst h;simp [hb0]
  simp [h]
def Z16 (m:Yw):Bool:=decide ((if decide (3∈Vd m)=true then 0 else m.Gateway)=0)&&(decide ((if decide (4∈Vd m)=true then 0 else m.Radius)=0)&&(decide ((if decide (6∈Vd m)=true then 0 else m.Time)=0)&&((decide (m.Type'=24) || !m.Timed)&&(decide ((if decide (7∈Vd m)=true then 0 else m.TopicID)=0)&&(decide ((if decide (8∈Vd m)=true then 0 else m.MsgID)=0)&&(decide ((if decide (5∈Vd m)=true then 0 else m.Code)=0)&&((decide (9∈Vd m)||decide (m.Name = []))&&(decide (10∈Vd m)||decide (m.Data = [])))))))))
theorem Qzh (m v:Yw) (hv:v=Z0e m):(((v.Type':Int) == m.Type')&&(((v.Flags.Dup:Bool) == m.Flags.Dup)&&(((v.Flags.QoS:Int) == m.Flags.QoS)&&(((v.Flags.Retain:Bool) == m.Flags.Retain)&&(((v.Flags.Will:Bool) == m.Flags.Will)&&(((v.Flags.Clean:Bool) == m.Flags.Clean)&&(((v.Flags.Type':Int) == m.Flags.Type')&&(((v.Gateway:Int) == 0)&&(((v.Radius:Int) == 0)&&(((v.Time:Int) == 0)&&(((v.Timed:Bool) == false)&&(((v.TopicID:Int) == 0)&&(((v.MsgID:Int) == 0)&&(((v.Code:Int) == 0)&&(((v.Name:List UInt8) == [])&&(((v.Data:List UInt8) == [])&&true))))))))))))))))=Z16 m:=by
 subst hv
 have a:((if m.Type'=24 then false else m.Timed) == false)=(decide (m.Type'=24) || !m.Timed):=by
  by_cases h:m.Type'=24<;>cases m.Timed<;>simp [h]
 have b:((if 9∈Vd m then [] else m.Name) == [])=(decide (9∈Vd m)||decide (m.Name = [])):=by
  by_cases h:9∈Vd m<;>by_cases g:m.Name = []<;>simp [h,g]
 have c:((if 10∈Vd m then [] else m.Data) == [])=(decide (10∈Vd m)||decide (m.Data = [])):=by
  by_cases h:10∈Vd m<;>by_cases g:m.Data = []<;>simp [h,g]
 have i:∀ n:Int,(n == 0)=decide (n=0):=fun n=>by by_cases h:n=0<;>simp [h]
 unfold Z0e Z16;simp only [beq_self_eq_true,Br,Ek,Ag,a,b,c,i]
def Z1o (m:Yw):Bool := !bdN m&&(Z16 m&&Qyt m)
theorem Qzw (m:Yw) (hk:m.Type'∈Q6q):Z1o m=Qkw m:=by
 unfold Z1o Qkw bdN Z16;rw [Z06 m hk,Qd2 (k:=256) (by omega) (by omega),Qd2 (k:=256) (by omega) (by omega),Qd2 (k:=256) (by omega) (by omega),Qd2 (k:=65536) (by omega) (by omega),Qd2 (k:=65536) (by omega) (by omega),Qd2 (k:=65536) (by omega) (by omega)];generalize (decide (3∈Vd m)&&Q9s m.Gateway 256)=x1;generalize (decide (4∈Vd m)&&Q9s m.Radius 256)=x2;generalize (decide (6∈Vd m)&&Q9s m.Time 65536)=x3;generalize (decide (7∈Vd m)&&Q9s m.TopicID 65536)=x4;generalize (decide (8∈Vd m)&&Q9s m.MsgID 65536)=x5;generalize (decide (5∈Vd m)&&Q9s m.Code 256)=x6;generalize decide ((if decide (3∈Vd m)=true then 0 else m.Gateway)=0)=y1;generalize decide ((if decide (4∈Vd m)=true then 0 else m.Radius)=0)=y2;generalize decide ((if decide (6∈Vd m)=true then 0 else m.Time)=0)=y3;generalize decide ((if decide (7∈Vd m)=true then 0 else m.TopicID)=0)=y4;generalize decide ((if decide (8∈Vd m)=true then 0 else m.MsgID)=0)=y5;generalize decide ((if decide (5∈Vd m)=true then 0 else m.Code)=0)=y6;generalize (!(decide (8∈Vd m)&&(!Qye m && !(decide (m.MsgID=0) == Qya m))))=z1;generalize (decide (9∈Vd m)||decide (m.Name = []))=z2;generalize (decide (10∈Vd m)||decide (m.Data = []))=z3;generalize (decide (m.Type'=24) || !m.Timed)=z4;cases x1<;>cases x2<;>cases x3<;>cases x4<;>cases x5<;>cases x6<;>simp only [Dp,Cg,Bool.true_or,Bool.or_true,Bool.not_false,Do,Br,Bool.false_and,Bool.and_false]<;>ac_rfl
end
end Go.Av
namespace Go.Av
noncomputable section
def Q64 (m:Yw) (k:Int):List UInt8:=
 if k=1 then Q12 (Qxp m.Flags).toNat 1 else if k=2 then [1] else if k=3 then Q12 m.Gateway.toNat 1 else if k=4 then Q12 m.Radius.toNat 1 else if k=5 then Q12 m.Code.toNat 1 else
 if k=6 then Q12 m.Time.toNat 2 else if k=7 then Q12 m.TopicID.toNat 2 else if k=8 then Q12 m.MsgID.toNat 2 else if k=9 then m.Name else m.Data
def Qr2 (m:Yw) (k:Int):Prop:=
 (k=1->Qfs m.Flags)∧(k=3->0≤m.Gateway∧m.Gateway≤255)∧(k=4->0≤m.Radius∧m.Radius≤255)∧(k=5->0≤m.Code∧m.Code≤255)∧(k=6->0≤m.Time∧m.Time≤65535)∧(k=7->0≤m.TopicID∧m.TopicID≤65535)∧(k=8->0≤m.MsgID∧m.MsgID≤65535)∧(1≤k∧k≤10)
def pwN (N:Nat) (k:Int) (c:Q0):Option (Unit×Q0):=
 if k=1 then Qr N c else if k=2 then Zu N c else if k=3 then Zr N c else if k=4 then Yb N c else if k=5 then Zb N c else
 if k=6 then Y3 N c else if k=7 then Za N c else if k=8 then Qu N c else if k=9 then Qa N c else Y2 N c
def chN (N:Nat):List Int->Q0->Option (Unit×Q0)
 | [],c=>some ((),c)
 | k::ks,c=>(pwN N k c).bind fun v=>chN N ks v.2
abbrev toI (l:List UInt8):List Int:=l.map fun b=>(b.toNat:Int)
theorem Q97 {N:Nat} (hN:10<N) (m:Yw) (o:List Int) (b:Bool) (n:Int) (w:Nat) (hw:1≤w∧w≤2) (hn:0≤n∧n≤65535) (ho:o.length≤1000000):((Qt N (wrap .u64 n) (w:Int)).bind fun v8=>
  cond (!(Nat.beq v8.length 0)) (cond (Nat.ble ((o.length+v8.length+4096) * 1) 17592186044416) (some ((),(⟨1,m,(o++(v8.map fun b=>(b.toNat:Int))),b⟩:Q0))) none) none)=some ((),⟨1,m,o++toI (Q12 n.toNat w),b⟩):=by
 have:=Qau N n.toNat w (by omega) (by omega) hN;rw [show wrap .u64 n=((n.toNat:Nat):Int) by rw [Qvz (by omega)];omega,this,Lf,Wm];rw [show Nat.beq w 0=false from by cases w with | zero=>omega | succ w=>rfl,show Nat.ble ((o.length+w+4096) * 1) 17592186044416=true from by rw [Ls];omega];rfl
theorem Qu1 (m:Yw) (o:List Int) (b:Bool) (s:List UInt8) (ho:o.length≤1000000) (hs:s.length≤1000000):cond (Nat.beq s.length 0) (some ((),(⟨1,m,o,b⟩:Q0))) (cond (Nat.ble ((o.length+s.length+4096) * 1) 17592186044416) (some ((),(⟨1,m,(o++(s.map fun b=>(b.toNat:Int))),b⟩:Q0))) none)=some ((),⟨1,m,o++toI s,b⟩):=by
 cases s with
 | nil=>show some ((),_)=_;simp
 | cons x s=>
  rw [show Nat.beq (x::s).length 0=false from rfl,show Nat.ble ((o.length+(x::s).length+4096) * 1) 17592186044416=true from by rw [Ls];omega];rfl
theorem Qsu {N:Nat} (hN:10<N) {m:Yw} {k:Int} (h:Qr2 m k) (hn:m.Name.length≤1000000) (hd:m.Data.length≤1000000) (o:List Int) (b:Bool) (ho:o.length≤1000000):pwN N k ⟨1,m,o,b⟩=some ((),⟨1,m,o++toI (Q64 m k),b⟩):=by
 obtain ⟨h1,h3,h4,h5,h6,h7,h8,h0,h10⟩:=h
 have hk:k=1∨k=2∨k=3∨k=4∨k=5∨k=6∨k=7∨k=8∨k=9∨k=10:=by omega
 rcases hk with rfl | rfl | rfl | rfl | rfl | rfl | rfl | rfl | rfl | rfl
 ·show Qr N ⟨1,m,o,b⟩=_;unfold Qr;rw [Qvi,Af (h1 rfl),Lf];have:=Qu3 (h1 rfl);exact Q97 hN m o b (Qxp m.Flags) 1 (by omega) (by omega) ho
 ·exact Q97 hN m o b 1 1 (by omega) (by omega) ho
 ·have:=h3 rfl;exact Q97 hN m o b m.Gateway 1 (by omega) (by omega) ho
 ·have:=h4 rfl;exact Q97 hN m o b m.Radius 1 (by omega) (by omega) ho
 ·have:=h5 rfl;exact Q97 hN m o b m.Code 1 (by omega) (by omega) ho
 ·have:=h6 rfl;exact Q97 hN m o b m.Time 2 (by omega) (by omega) ho
 ·have:=h7 rfl;exact Q97 hN m o b m.TopicID 2 (by omega) (by omega) ho
 ·have:=h8 rfl;exact Q97 hN m o b m.MsgID 2 (by omega) (by omega) ho
 ·exact Qu1 m o b m.Name ho hn
 exact Qu1 m o b m.Data ho hd
theorem Qa0 {m:Yw} (k:Int) {B:Nat} (hn:m.Name.length≤B) (hd:m.Data.length≤B) (hB:2≤B):(Q64 m k).length≤B:=by
 unfold Q64
 repeat' split
 all_goals first | (rw [Wm];omega) | (simp only [Ma,Mb];omega) | assumption
theorem Qyu {N:Nat} (hN:10<N) {m:Yw} (hn:m.Name.length≤100000) (hd:m.Data.length≤100000) (b:Bool):∀ (ks:List Int) (o:List Int),(∀ k∈ks,Qr2 m k)->o.length+100000 * ks.length≤1000000->chN N ks ⟨1,m,o,b⟩=some ((),⟨1,m,o++toI (ks.flatMap (Q64 m)),b⟩)
 | [],o,_,_=>by simp [chN]
 | k::ks,o,h,ho=>by
  have hp:=Qa0 (m:=m) k hn hd (by omega);rw [chN,Qsu hN (h k (List.mem_cons_self ..)) (by omega) (by omega) o b (by omega),Lf];simp only [Ma] at ho;rw [Qyu hN hn hd b ks _ (fun x hx=>h x (List.mem_cons_of_mem _ hx)) (by rw [Ln,Lp];omega)];simp
theorem Qoe (m:Yw):(Vd m).length≤4:=by
 unfold Vd
 have if4:∀ {P:Prop} [Decidable P] {a b:List Int},a.length≤4->b.length≤4->(if P then a else b).length≤4:=fun ha hb=>by split<;>assumption
 repeat' first | exact Lw rfl | refine if4 ?_ ?_
theorem Qlm {N:Nat} (hN:10<N) {m:Yw} (hk:m.Type'∈Q6q) (hn:m.Name.length≤100000) (hd:m.Data.length≤100000) (hf:∀ k∈Vd m,Qr2 m k) (b:Bool):Ql N ⟨1,m,[],b⟩=some ((),⟨1,m,toI ((Vd m).flatMap (Q64 m)),b⟩):=by
 have h4:=Qoe m;have e:=Qyu hN hn hd b (Vd m) [] hf (by simp only [Mb];omega);rw [Nv] at e;rw [← e];obtain ⟨M,rfl⟩:∃ M,N=M+1:=⟨N - 1,by omega⟩;have p1:=fun h=>Qsu hN (m:=m) (k:=1) h (by omega) (by omega) [] b (by simp);have p8:=fun h=>Qsu hN (m:=m) (k:=8) h (by omega) (by omega) (toI (Q64 m 1)) b (by have:=Qa0 (m:=m) 1 hn hd (by omega);rw [Lp];omega);obtain ⟨t,f,g,r,ti,td,tp,mi,co,nm,da⟩:=m;simp only [Q6q,Lx,Mz,or_false] at hk
 have sub:(t=18∨t=20)->Ql (M+1) ⟨1,⟨t,f,g,r,ti,td,tp,mi,co,nm,da⟩,[],b⟩=chN (M+1) (Vd ⟨t,f,g,r,ti,td,tp,mi,co,nm,da⟩) ⟨1,⟨t,f,g,r,ti,td,tp,mi,co,nm,da⟩,[],b⟩:=fun ht=>by
  have f1:Qr2 ⟨t,f,g,r,ti,td,tp,mi,co,nm,da⟩ 1∧Qr2 ⟨t,f,g,r,ti,td,tp,mi,co,nm,da⟩ 8:=by
   rcases ht with rfl | rfl<;>by_cases z:f.Type'=0<;>simp [Vd,z] at hf<;>exact ⟨hf.1,hf.2.1⟩
  have p1:=p1 f1.1;have p8:=p8 f1.2
  have e1:Ql (M+1) ⟨1,⟨t,f,g,r,ti,td,tp,mi,co,nm,da⟩,[],b⟩=(pwN (M+1) 1 ⟨1,⟨t,f,g,r,ti,td,tp,mi,co,nm,da⟩,[],b⟩).bind fun v=>(pwN (M+1) 8 v.2).bind fun v=>(Y4 (M+1) v.2).bind fun v=>some ((),v.2):=by
   rcases ht with rfl | rfl<;>rfl
  rw [e1,p1,Lf,Nv,p8,Lf];unfold Y4;rw [Zp]
  by_cases z:f.Type'=0
  ·have ep:Vd ⟨t,f,g,r,ti,td,tp,mi,co,nm,da⟩ = [1,8,9]:=by rcases ht with rfl | rfl<;>simp [Vd,z]
   rw [ep,chN,p1,Lf,Nv,chN,p8,Lf,Ad (show (⟨1,⟨t,f,g,r,ti,td,tp,mi,co,nm,da⟩,toI (Q64 ⟨t,f,g,r,ti,td,tp,mi,co,nm,da⟩ 1)++toI (Q64 ⟨t,f,g,r,ti,td,tp,mi,co,nm,da⟩ 8),b⟩:Q0).m.Flags.Type'=0 from z)]
   have q:∀ C,((Qa (M+1) C).bind fun v2=>some ((),v2.2)).bind (fun v=>some ((),v.2))=chN (M+1) [9] C:=fun C=>by
    have e:chN (M+1) [9] C=(Qa (M+1) C).bind fun v=>some ((),v.2):=rfl;rw [e];cases Qa (M+1) C<;>rfl
   exact q _
  have ep:Vd ⟨t,f,g,r,ti,td,tp,mi,co,nm,da⟩ = [1,8,7]:=by rcases ht with rfl | rfl<;>simp [Vd,z]
  rw [ep,chN,p1,Lf,Nv,chN,p8,Lf,Ab (show ¬ (⟨1,⟨t,f,g,r,ti,td,tp,mi,co,nm,da⟩,toI (Q64 ⟨t,f,g,r,ti,td,tp,mi,co,nm,da⟩ 1)++toI (Q64 ⟨t,f,g,r,ti,td,tp,mi,co,nm,da⟩ 8),b⟩:Q0).m.Flags.Type'=0 from z)]
  have q:∀ C,((Za (M+1) C).bind fun v2=>some ((),v2.2)).bind (fun v=>some ((),v.2))=chN (M+1) [7] C:=fun C=>by
   have e:chN (M+1) [7] C=(Za (M+1) C).bind fun v=>some ((),v.2):=rfl;rw [e];cases Za (M+1) C<;>rfl
  exact q _
 by_cases ht:t=18∨t=20
 ·exact sub ht
 have wil:(t=7∨t=26)->Ql (M+1) ⟨1,⟨t,f,g,r,ti,td,tp,mi,co,nm,da⟩,[],b⟩=chN (M+1) (Vd ⟨t,f,g,r,ti,td,tp,mi,co,nm,da⟩) ⟨1,⟨t,f,g,r,ti,td,tp,mi,co,nm,da⟩,[],b⟩:=fun ht=>by
  cases nm with
  | nil=>rcases ht with rfl | rfl<;>rfl
  | cons x nm=>
   have f1:Qr2 ⟨t,f,g,r,ti,td,tp,mi,co,x::nm,da⟩ 1:=by
    rcases ht with rfl | rfl<;>simp [Vd] at hf<;>exact hf.1
   have p1:=p1 f1
   have ep:Vd ⟨t,f,g,r,ti,td,tp,mi,co,x::nm,da⟩ = [1,9]:=by rcases ht with rfl | rfl<;>simp [Vd]
   have e1:Ql (M+1) ⟨1,⟨t,f,g,r,ti,td,tp,mi,co,x::nm,da⟩,[],b⟩=((pwN (M+1) 1 ⟨1,⟨t,f,g,r,ti,td,tp,mi,co,x::nm,da⟩,[],b⟩).bind fun v=>cond (Q2 .eql v.2.do' 0) ((Qa (M+1) v.2).bind fun v7=>some ((),v7.2)) ((Qa (M+1) v.2).bind fun v9=>some ((),v9.2))).bind fun v=>some ((),v.2):=by
    rcases ht with rfl | rfl<;>rfl
   rw [e1,ep,chN,p1,Lf,Lf,Nv]
   have q:∀ C:Q0,C.do'=1->(cond (Q2 .eql C.do' 0) ((Qa (M+1) C).bind fun v7=>some ((),v7.2)) ((Qa (M+1) C).bind fun v9=>some ((),v9.2))).bind (fun v=>some ((),v.2))=chN (M+1) [9] C:=fun C hC=>by
    have e:chN (M+1) [9] C=(Qa (M+1) C).bind fun v=>some ((),v.2):=rfl;rw [e,hC];cases Qa (M+1) C<;>rfl
   exact q _ rfl
 by_cases hw:t=7∨t=26
 ·exact wil hw
 clear wil
 by_cases hu:t=24∧td=true
 ·obtain ⟨rfl,rfl⟩:=hu
  have f1:Qr2 ⟨24,f,g,r,ti,true,tp,mi,co,nm,da⟩ 6:=by simp [Vd] at hf;exact hf
  have p6:=Qsu hN (k:=6) f1 (by omega) (by omega) [] b (by simp);have e1:Ql (M+1) ⟨1,⟨24,f,g,r,ti,true,tp,mi,co,nm,da⟩,[],b⟩=((pwN (M+1) 6 ⟨1,⟨24,f,g,r,ti,true,tp,mi,co,nm,da⟩,[],b⟩).bind fun v4=>cond (Q2 .eql v4.2.do' 2) (some ((),(⟨v4.2.do',(⟨v4.2.m.Type',v4.2.m.Flags,v4.2.m.Gateway,v4.2.m.Radius,v4.2.m.Time,false,v4.2.m.TopicID,v4.2.m.MsgID,v4.2.m.Code,v4.2.m.Name,v4.2.m.Data⟩:Yw),v4.2.out,v4.2.bad⟩:Q0))) (some ((),v4.2))).bind fun v=>some ((),v.2):=rfl;have e2:chN (M+1) (Vd ⟨24,f,g,r,ti,true,tp,mi,co,nm,da⟩) ⟨1,⟨24,f,g,r,ti,true,tp,mi,co,nm,da⟩,[],b⟩=(pwN (M+1) 6 ⟨1,⟨24,f,g,r,ti,true,tp,mi,co,nm,da⟩,[],b⟩).bind fun v=>some ((),v.2):=rfl;rw [e1,e2,p6];rfl
 clear sub e p1 p8
 rcases hk with rfl | rfl | rfl | rfl | rfl | rfl | rfl | rfl | rfl | rfl | rfl | rfl | rfl | rfl | rfl | rfl | rfl | rfl | rfl | rfl | rfl | rfl | rfl | rfl | rfl | rfl | rfl
 all_goals first | rfl | (exact absurd ht (by decide)) | (exact absurd hw (by decide)) | (cases td<;>first | rfl | exact absurd ⟨rfl,rfl⟩ hu)
theorem Qpv (N:Nat) (hN:10<N) {m:Yw} (hn:m.Name.length≤100000) (hd:m.Data.length≤100000) (l:List Int) (hf:∀ k∈l,Qr2 m k) (hl:l.length≤4):∀ (j i:Nat) (o:List UInt8),i≤l.length->l.length<j+i->o.length+100000 * (l.length - i)≤1000000->Qe N m l j o (i:Int)=some (o++(l.drop i).flatMap (Q64 m))
 | 0,i,o,h1,h2,_=>by omega
 | j+1,i,o,h1,h2,ho=>by
  rw [Qe,Qy,Qs]
  by_cases hi:i<l.length
  ·rw [Ad (show (i:Int)<(l.length:Int) by omega)];show (idx l (i:Int)).bind _=_;rw [show idx l (i:Int)=some l[i] from by show l[i]? = _;exact Lb hi,Lf,Bb hi,Mu];have hk:=hf l[i] (Mn hi);generalize l[i]=k at hk ⊢
   have wi:wrap .i64 ((i:Int)+1)=((i+1:Nat):Int):=by rw [IntKind.wrap_i64];omega
   have hp:=Qa0 (m:=m) k hn hd (by omega)
   have fin:∀ s:List UInt8,s=Q64 m k->cond (Nat.ble (o.length+s.length) 4611686018427387904) (Qe N m l j (o++s) (wrap .i64 ((i:Int)+1))) none=some (o++(Q64 m k++(l.drop (i+1)).flatMap (Q64 m))):=fun s hs=>by
    subst hs;rw [show Nat.ble (o.length+(Q64 m k).length) 4611686018427387904=true from by rw [Ls];omega,wi];show Qe N m l j _ _=_;rw [Qpv N hN hn hd l hf hl j (i+1) _ (by omega) (by omega) (by rw [Ln];omega),Bf]
   have one:∀ n:Int,0≤n∧n≤255->[UInt8.ofNat (wrap .u8 n).toNat]=Q12 n.toNat 1:=fun n h=>Qyk n (by omega)
   have two:∀ n:Int,0≤n∧n≤65535->Z3 N (wrap .u64 n) 2=some (Q12 n.toNat 2):=fun n h=>by
    have:=Qlb N n.toNat 2 (by omega) (by omega) hN
    rwa [show ((n.toNat:Nat):Int)=wrap .u64 n by rw [Qvz (by omega)];omega] at this
   obtain ⟨h1,h3,h4,h5,h6,h7,h8,h0,h10⟩:=hk
   have hk:k=1∨k=2∨k=3∨k=4∨k=5∨k=6∨k=7∨k=8∨k=9∨k=10:=by omega
   rcases hk with rfl | rfl | rfl | rfl | rfl | rfl | rfl | rfl | rfl | rfl
   ·show (Yp N m.Flags).bind _=_;rw [Qyq,Af (h1 rfl),Lf];exact fin _ (one _ (Qu3 (h1 rfl)))
   ·exact fin _ rfl
   ·exact fin _ (one _ (h3 rfl))
   ·exact fin _ (one _ (h4 rfl))
   ·exact fin _ (one _ (h5 rfl))
   ·show (Z3 N _ 2).bind _=_;rw [two _ (h6 rfl),Lf];exact fin _ rfl
   ·show (Z3 N _ 2).bind _=_;rw [two _ (h7 rfl),Lf];exact fin _ rfl
   ·show (Z3 N _ 2).bind _=_;rw [two _ (h8 rfl),Lf];exact fin _ rfl
   ·exact fin _ rfl
   exact fin _ rfl
  rw [Ab (by omega),show l.drop i = [] from Cf.2 (by omega)];simp
def Qch (m:Yw):List UInt8:=(Vd m).flatMap (Q64 m)
section
variable {m:Yw} (hk:m.Type'∈Q6q) (hn:m.Name.length≤100000) (hd:m.Data.length≤100000) (hf:∀ k∈Vd m,Qr2 m k)
include hk hn hd hf
theorem Qz8 {N:Nat} (hN:10<N):V6 N m=some (Qch m):=by
 unfold V6;rw [Qlm hN hk hn hd hf,Lf];show some ((toI (Qch m)).map fun n=>UInt8.ofNat n.toNat)=_;rw [Nj,show ((fun n:Int=>UInt8.ofNat n.toNat) ∘ fun b:UInt8=>(b.toNat:Int))=id from by funext b;simp,Eh]
theorem Z1j {N:Nat} (hN:10<N):Zd N m=some (Qch m):=by
 unfold Zd;rw [Qtp N m hk,Lf];have h4:=Qoe m;have:=Qpv N hN hn hd (Vd m) hf h4 N 0 [] (by omega) (by omega) (by simp only [Mb];omega)
 rwa [Nv,Nz] at this
end
end
end Go.Av
namespace Go.Av
noncomputable section
def hdS (k n:Int):List UInt8:=if n≤253 then Q12 (n+2).toNat 1++Q12 k.toNat 1 else Q12 1 1++Q12 (n+4).toNat 2++Q12 k.toNat 1
def hdX (k n:Int):List UInt8×Int:=if Qml k=true then (if n>65531 then ([],4) else (hdS k n,0)) else ([],8)
theorem Qpj {k:Int} (h:Qml k=true):0≤k∧k≤255:=by
 have:=Aa h;omega
theorem Qpf {N:Nat} (hN:10<N) (k n:Int) (hn:0≤n∧n≤1000000000):Xe N k n=some (hdX k n):=by
 unfold Xe hdX;rw [Qtu,Lf]
 cases hk:Qml k with
 | false=>rfl
 | true=>
  have kb:=Qpj hk
  have pt:∀ (x:Int) (w:Nat),0≤x∧x≤65535->w≤8->Qt N (wrap .u64 x) (w:Int)=some (Q12 x.toNat w):=fun x w h hw=>by
   have:=Qau N x.toNat w (by omega) hw hN
   rwa [show ((x.toNat:Nat):Int)=wrap .u64 x by rw [Qvz (by omega)];omega] at this
  have e2:wrap .i64 (n+2)=n+2:=by rw [IntKind.wrap_i64];omega
  have e4:wrap .i64 (n+4)=n+4:=by rw [IntKind.wrap_i64];omega
  rw [Qs,U3,Vz,e2,e4,Ab (show ¬ n<0 by omega)];show cond (decide (n>65531)) (some ([],4)) _=_
  by_cases h1:n>65531
  ·rw [Ad h1];simp [h1]
  rw [Ab h1]
  by_cases h2:n≤253
  ·rw [Ad (show n+2≤255 by omega)];show (Qt N (wrap .u64 (n+2)) ((1:Nat):Int)).bind (fun v7=>(Qt N (wrap .u64 k) ((1:Nat):Int)).bind fun v9=>cond (Nat.ble (v7.length+v9.length) 4611686018427387904) (some ((v7++v9),(0:Int))) none)=_;rw [pt (n+2) 1 (by omega) (by omega),Lf,pt k 1 (by omega) (by omega),Lf,Wm,Wm];simp [hdS,h2,h1];rfl
  rw [Ab (show ¬ n+2≤255 by omega)];have p1:=pt 1 1 (by omega) (by omega);rw [show wrap .u64 1=(1:Int) from rfl] at p1;show (Qt N 1 ((1:Nat):Int)).bind (fun v12=>(Qt N (wrap .u64 (n+4)) ((2:Nat):Int)).bind fun v14=>cond (Nat.ble (v12.length+v14.length) 4611686018427387904) ((Qt N (wrap .u64 k) ((1:Nat):Int)).bind fun v17=>cond (Nat.ble ((v12++v14).length+v17.length) 4611686018427387904) (some (((v12++v14)++v17),(0:Int))) none) none)=_;rw [p1,Lf,pt (n+4) 2 (by omega) (by omega),Lf,pt k 1 (by omega) (by omega)];rw [Wm,Wm];simp only [Lf,Ln,Wm];simp [hdS,h2,h1];rfl
theorem Qx1 {N:Nat} (hN:10<N) (k n:Int) (hn:0≤n∧n≤1000000000):Z7 N k n=some (hdX k n):=by
 unfold Z7 hdX;rw [Qul,Lf]
 cases hk:Qml k with
 | false=>rfl
 | true=>
  have kb:=Qpj hk
  have e2:wrap .i64 (n+2)=n+2:=by rw [IntKind.wrap_i64];omega
  have e4:wrap .i64 (n+4)=n+4:=by rw [IntKind.wrap_i64];omega
  have one:∀ n:Int,0≤n∧n≤255->UInt8.ofNat (wrap .u8 n).toNat=UInt8.ofNat n.toNat:=fun n h=>by rw [IntKind.wrap_u8];congr 1;omega
  have b1:∀ n:Int,0≤n∧n≤255->Q12 n.toNat 1 = [UInt8.ofNat n.toNat]:=fun n h=>by rw [← Qyk n (by omega),one n h]
  rw [Qs,U3,Vz,e2,e4,Ab (show ¬ n<0 by omega)]
  by_cases h2:n≤253
  ·rw [Ad h2,one (n+2) (by omega),one k kb];simp [hdS,h2,show ¬ n>65531 by omega,b1 (n+2) (by omega),b1 k kb]
  rw [Ab h2];show cond (decide (n>65531)) (some ([],4)) _=_
  by_cases h1:n>65531
  ·rw [Ad h1];simp [h1]
  rw [Ab h1];have:=Qlb N (n+4).toNat 2 (by omega) (by omega) hN;rw [show (((n+4).toNat:Nat):Int)=wrap .u64 (n+4) by rw [Qvz (by omega)];omega] at this;show (Z3 N (wrap .u64 (n+4)) ((2:Nat):Int)).bind _=_;rw [this,Lf,one k kb,Wm];simp [hdS,h2,h1,b1 k kb,Wm];rfl
def Qwx (id:Int):List UInt8×Bool:=if 0≤id∧id≤65535 then (if Q02 (Q12 id.toNat 2)=true then (Q12 id.toNat 2,true) else ([],false)) else ([],false)
theorem Qf1 (id:Int):Tot (fun N=>Xd N id) (Qwx id):=by
 refine TotP.tot ?_;unfold Xd Qwx;rw [Qs,U3];refine TotP.cond (fun g => .ret (by have:=Aa g;rw [Ae (by omega)])) (fun g=>?_);refine TotP.cond (fun g => .ret (by have:=Aa g;rw [Ae (by omega)])) (fun g2=>?_)
 have h:0≤id∧id≤65535:=by have:=Ac g;have:=Ac g2;omega
 rw [Af h];refine TotP.bindE (Qro id (by omega) 2 (by omega)) ?_;refine TotP.bindE (Q3j _ (by rw [Wm];decide)) ?_
 cases Q02 (Q12 id.toNat 2) with
 | false=>exact .ret rfl
 | true=>exact .ret rfl
theorem Qep (id:Int):Tot (fun N=>Zf N id) (Qwx id):=by
 refine TotP.tot ?_;unfold Zf Qwx;rw [Qs,U3];refine TotP.cond (fun g => .ret (by have:=Aa g;rw [Ae (by omega)])) (fun g=>?_);refine TotP.cond (fun g => .ret (by have:=Aa g;rw [Ae (by omega)])) (fun g2=>?_)
 have h:0≤id∧id≤65535:=by have:=Ac g;have:=Ac g2;omega
 rw [Af h];refine TotP.bindE (v:=Q12 id.toNat 2) ⟨11,fun N hN=>?_⟩ ?_
 ·have:=Qlb N id.toNat 2 (by omega) (by omega) (by omega)
  rwa [show ((id.toNat:Nat):Int)=wrap .u64 id by rw [Qvz (by omega)];omega] at this
 have hl:=Wm 2 id.toNat;unfold V4;rw [hl];refine TotP.bind (V:=fun v=>v.2=Q02 (Q12 id.toNat 2)) ?_ (fun v hv=>?_)
 ·refine TotP.cond (fun g=>nomatch g) (fun _=>?_);refine TotP.bindE (Q3a _ (by rw [hl];decide)) ?_
  cases Q02 (Q12 id.toNat 2) with
  | false=>exact .ret rfl
  | true=>exact TotP.bindE ⟨11,fun N hN=>Qu4 N _ (by rw [hl];decide) (by omega)⟩ (.ret rfl)
 rw [hv]
 cases Q02 (Q12 id.toNat 2) with
 | false=>exact .ret rfl
 | true=>exact .ret rfl
def tpE (f id:Int):Int:=if f=2 then (if (Qwx id).2=true then 0 else 10) else if id<1 then 2 else if id>65534 then 2 else 0
theorem Q90 {D:Nat->Option (List UInt8×Bool)} {f id:Int} (hD:Tot D (Qwx id)):TotP (fun N=>cond (Q2 .eql f 2) ((D N).bind fun v4=>cond (!v4.2) (some (10:Int)) (some 0)) (cond (Q2 .lss id 1) (some 2) (cond (Q2 .gtr id 65534) (some 2) (some 0)))) (· = tpE f id):=by
 unfold tpE;rw [Zp,Qs,U3];refine TotP.cond (fun g=>?_) (fun g=>?_)
 ·rw [Af (Aa g)];refine TotP.bindE hD ?_
  cases (Qwx id).2 with
  | false=>exact .ret rfl
  | true=>exact .ret rfl
 rw [Ae (Ac g)];refine TotP.cond (fun g => .ret (by rw [Af (Aa g)])) (fun g=>?_);rw [Ae (Ac g)];exact TotP.cond (fun g => .ret (by rw [Af (Aa g)])) (fun g => .ret (by rw [Ae (Ac g)]))
def Qn4 (m:Yw):Int:=if m.Type'=12∨m.Type'=10 then tpE m.Flags.Type' m.TopicID else if m.Type'=18∨m.Type'=20 then (if m.Flags.Type'=0 then 0 else tpE m.Flags.Type' m.TopicID) else 0
theorem Z0g (m:Yw):Tot (fun N=>Xo N m) (Qn4 m):=by
 refine TotP.tot ?_;unfold Xo Qn4;rw [Zp,Zp,Zp,Zp,Zp];refine TotP.cond (fun g=>?_) (fun g1=>?_)
 ·have g:=Aa g;rw [Ae (by omega),Af (.inl g)];exact TotP.cond (fun g => .ret (by rw [Af (Aa g)])) (fun g=>by rw [Ae (Ac g)];exact Q90 (Qf1 _))
 refine TotP.cond (fun g=>?_) (fun g2=>?_)
 ·have g:=Aa g;rw [Ae (by omega),Af (.inr g)];exact TotP.cond (fun g => .ret (by rw [Af (Aa g)])) (fun g=>by rw [Ae (Ac g)];exact Q90 (Qf1 _))
 have g1:=Ac g1;have g2:=Ac g2;refine TotP.cond (fun g=>?_) (fun g3=>?_)
 ·rw [Af (.inl (Aa g))];exact Q90 (Qf1 _)
 refine TotP.cond (fun g=>?_) (fun g4=>?_)
 ·rw [Af (.inr (Aa g))];exact Q90 (Qf1 _)
 have g3:=Ac g3;have g4:=Ac g4;exact .ret (by rw [Ae (by omega),Ae (by omega)])
theorem Qz1 (m:Yw):Tot (fun N=>Z4 N m) (Qn4 m):=by
 refine TotP.tot ?_;unfold Z4 Qn4;rw [Zp,Zp,Zp,Zp]
 have nt:(!(Q2 .neq m.Flags.Type' 0))=decide (m.Flags.Type'=0):=by rw [Je];by_cases h:m.Flags.Type'=0<;>simp [h]
 rw [nt];refine TotP.cond (fun g=>?_) (fun g1=>?_)
 ·rw [Af (.inl (Aa g))];exact Q90 (Qep _)
 refine TotP.cond (fun g=>?_) (fun g2=>?_)
 ·rw [Af (.inr (Aa g))];exact Q90 (Qep _)
 have g1:=Ac g1;have g2:=Ac g2;rw [Ae (by omega)];refine TotP.cond (fun g=>?_) (fun g3=>?_)
 ·rw [Af (.inl (Aa g))];exact TotP.cond (fun g => .ret (by rw [Af (Aa g)])) (fun g=>by rw [Ae (Ac g)];exact Q90 (Qep _))
 refine TotP.cond (fun g=>?_) (fun g4=>?_)
 ·rw [Af (.inr (Aa g))];exact TotP.cond (fun g => .ret (by rw [Af (Aa g)])) (fun g=>by rw [Ae (Ac g)];exact Q90 (Qep _))
 have g3:=Ac g3;have g4:=Ac g4;exact .ret (by rw [Ae (by omega)])
def Qqz (m:Yw):Int:=
 if m.Type'=4 then (if m.Name ≠ []∧m.Name.length≤23∧Q2v m.Name=true then 0 else 6) else if m.Type'=22 then (if m.Name.length≤23∧Q2v m.Name=true then 0 else 6) else if m.Type'=10 then (if Q02 m.Name=true then 0 else 10) else
 if m.Type'=7∨m.Type'=26 then (if m.Name = []∨Q02 m.Name=true then 0 else 10) else if m.Type'=18∨m.Type'=20 then (if m.Flags.Type'≠0∨Qxy m.Name=true then 0 else 10) else if m.Type'=2 then (if m.Name.length≤16 then 0 else 2) else 0
theorem Qfx {D:Nat->Option Bool} {v:Bool} {x y:Int} (hD:Tot D v):TotP (fun N=>(D N).bind fun v=>cond v (some x) (some y)) (· = if v=true then x else y):=by
 refine TotP.bindE hD ?_
 cases v with
 | false=>exact .ret rfl
 | true=>exact .ret rfl
theorem Qph {D:Nat->Option Bool} {v:Bool} {x y:Int} (hD:Tot D v):TotP (fun N=>(D N).bind fun v=>cond (!v) (some x) (some y)) (· = if v=true then y else x):=by
 refine TotP.bindE hD ?_
 cases v with
 | false=>exact .ret rfl
 | true=>exact .ret rfl
theorem TotP.eqv {α:Type} {f:Nat->Option α} {a b : α} (h:TotP f (· = a)) (e:a=b):TotP f (· = b):=e▸h
section
variable (m:Yw) (hn:m.Name.length≤70000)
include hn
theorem Qzj:Tot (fun N=>Vq N m) (Qqz m):=by
 refine TotP.tot ?_;have hm:m.Name.length≤maxLen:=Mq hn (Lw rfl);unfold Vq Qqz;simp only [Zp,Uz,Q5j,Vz,Je]
 have wil:TotP (fun N=>cond (decide (m.Name = [])) (some 0) ((V5 N m.Name).bind fun v18=>cond v18 (some 0) (some 10))) (· = if m.Name = []∨Q02 m.Name=true then 0 else (10:Int)):=by
  refine TotP.cond (fun g => .ret (by rw [Af (.inl (Aa g))])) (fun g=>?_);refine (Qfx (Q3j _ hm)).eqv ?_;have g:=Ac g;simp [g]
 have sub:TotP (fun N=>cond (decide (m.Flags.Type'≠0)) (some 0) ((Wc N m.Name).bind fun v28=>cond v28 (some 0) (some 10))) (· = if m.Flags.Type'≠0∨Qxy m.Name=true then 0 else (10:Int)):=by
  refine TotP.cond (fun g => .ret (by rw [Af (.inl (Aa g))])) (fun g=>?_);refine (Qfx (Qw9 _ hn)).eqv ?_;have g:=Ac g;simp [g]
 refine TotP.cond (fun g=>?_) (fun g4=>?_)
 ·rw [Af (Aa g)];refine TotP.cond (fun g1=>?_) (fun g1 => .ret (by have:=Ac g1;rw [Ae fun x=>this x.1]));refine TotP.cond (fun g2=>?_) (fun g2 => .ret (by have:=Ac g2;rw [Ae (by omega)]));refine (Qfx (Q7m _)).eqv ?_;have g1:=Aa g1;have g2:=Aa g2;simp [g1,show m.Name.length≤23 by omega]
 rw [Ae (Ac g4)];refine TotP.cond (fun g=>?_) (fun g22=>?_)
 ·rw [Af (Aa g)];refine TotP.cond (fun g2=>?_) (fun g2 => .ret (by have:=Ac g2;rw [Ae (by omega)]));refine (Qfx (Q7m _)).eqv ?_;have g2:=Aa g2;simp [show m.Name.length≤23 by omega]
 rw [Ae (Ac g22)];refine TotP.cond (fun g=>?_) (fun g10=>?_)
 ·rw [Af (Aa g)];exact Qfx (Q3j _ hm)
 rw [Ae (Ac g10)];refine TotP.cond (fun g=>?_) (fun g7=>?_)
 ·rw [Af (.inl (Aa g))];exact wil
 refine TotP.cond (fun g=>?_) (fun g26=>?_)
 ·rw [Af (.inr (Aa g))];exact wil
 have g7:=Ac g7;have g26:=Ac g26;rw [Ae (by omega)];refine TotP.cond (fun g=>?_) (fun g18=>?_)
 ·rw [Af (.inl (Aa g))];exact sub
 refine TotP.cond (fun g=>?_) (fun g20=>?_)
 ·rw [Af (.inr (Aa g))];exact sub
 have g18:=Ac g18;have g20:=Ac g20;rw [Ae (by omega)];refine TotP.cond (fun g=>?_) (fun g2 => .ret (by rw [Ae (Ac g2)]));rw [Af (Aa g)];exact TotP.cond (fun g => .ret (by have:=Aa g;rw [Af (by omega)])) (fun g => .ret (by have:=Ac g;rw [Ae (by omega)]))
theorem Z0q:Tot (fun N=>Zc N m) (Qqz m):=by
 refine TotP.tot ?_;have hm:m.Name.length≤maxLen:=Mq hn (Lw rfl);unfold Zc Qqz;simp only [Zp,Uz,Q5j,U3,Je]
 have wil:TotP (fun N=>cond (decide (m.Name ≠ [])) ((Yc N m.Name).bind fun v18=>cond (!v18) (some 10) (some 0)) (some 0)) (· = if m.Name = []∨Q02 m.Name=true then 0 else (10:Int)):=by
  refine TotP.cond (fun g=>?_) (fun g => .ret (by rw [Af (.inl (Decidable.byContradiction fun x=>Ac g x))]));refine (Qph (Q3a _ hm)).eqv ?_;have g:=Aa g;simp [g]
 have sub:TotP (fun N=>cond (decide (m.Flags.Type'=0)) ((X1 N m.Name).bind fun v28=>cond (!v28) (some 10) (some 0)) (some 0)) (· = if m.Flags.Type'≠0∨Qxy m.Name=true then 0 else (10:Int)):=by
  refine TotP.cond (fun g=>?_) (fun g => .ret (by rw [Af (.inl (Ac g))]));refine (Qph (Qwq _ hn)).eqv ?_;have g:=Aa g;simp [g]
 refine TotP.cond (fun g=>?_) (fun g4=>?_)
 ·rw [Af (Aa g)];refine TotP.bindE (Q5n _) ?_
  cases hv:Q2v m.Name with
  | false=>exact .ret (by simp)
  | true=>
   refine TotP.cond (fun g=>nomatch g) (fun _=>?_);refine TotP.cond (fun g2 => .ret (by have:=Aa g2;rw [Ae (by omega)])) (fun g2=>?_);have g2:=Ac g2;refine TotP.cond (fun g2 => .ret (by have:=Aa g2;rw [Ae fun x=>x.1 this])) (fun g3 => .ret ?_);have g3:=Ac g3;rw [Af ⟨g3,by omega,rfl⟩]
 rw [Ae (Ac g4)];refine TotP.cond (fun g=>?_) (fun g22=>?_)
 ·rw [Af (Aa g)];refine TotP.bindE (Q5n _) ?_
  cases hv:Q2v m.Name with
  | false=>exact .ret (by simp)
  | true=>
   refine TotP.cond (fun g=>nomatch g) (fun _=>?_);refine TotP.cond (fun g2 => .ret (by have:=Aa g2;rw [Ae (by omega)])) (fun g2 => .ret ?_);have g2:=Ac g2;rw [Af ⟨by omega,rfl⟩]
 rw [Ae (Ac g22)];refine TotP.cond (fun g=>?_) (fun g10=>?_)
 ·rw [Af (Aa g)];exact Qph (Q3a _ hm)
 rw [Ae (Ac g10)];refine TotP.cond (fun g=>?_) (fun g7=>?_)
 ·rw [Af (.inl (Aa g))];exact wil
 refine TotP.cond (fun g=>?_) (fun g26=>?_)
 ·rw [Af (.inr (Aa g))];exact wil
 have g7:=Ac g7;have g26:=Ac g26;rw [Ae (by omega)];refine TotP.cond (fun g=>?_) (fun g18=>?_)
 ·rw [Af (.inl (Aa g))];exact sub
 refine TotP.cond (fun g=>?_) (fun g20=>?_)
 ·rw [Af (.inr (Aa g))];exact sub
 have g18:=Ac g18;have g20:=Ac g20;rw [Ae (by omega)];refine TotP.cond (fun g=>?_) (fun g2 => .ret (by rw [Ae (Ac g2)]));rw [Af (Aa g)];exact TotP.cond (fun g => .ret (by have:=Aa g;rw [Ae (by omega)])) (fun g => .ret (by have:=Ac g;rw [Af (by omega)]))
end
end
end Go.Av
namespace Go.Av
noncomputable section
def zfl (f:Zh):Bool:=(((f.Dup:Bool) == false)&&(((f.QoS:Int) == 0)&&(((f.Retain:Bool) == false)&&(((f.Will:Bool) == false)&&(((f.Clean:Bool) == false)&&(((f.Type':Int) == 0)&&true))))))
def Qrh (m:Yw):Bool:=decide (m.Type'=7∨m.Type'=26)
def tlE (m:Yw):Int:=if Qkw m=true then (if Qn4 m=0 then (if Qqz m=0 then (hdX m.Type' (Qch m).length).2 else Qqz m) else Qn4 m) else 2
def snE (m:Yw):Int:=if m.Type'∈Q6q then (if Qji m.Type' m.Flags=true then (if Qrh m=true∧m.Name = []∧zfl m.Flags=false then 7 else tlE m) else 7) else 8
def snB (m:Yw):List UInt8:=hdS m.Type' (Qch m).length++Qch m
theorem Qay {k:Int} (h:k∈Q6q):Qml k=true∧k≠254:=by
 simp only [Q6q,Lx,Mz,or_false] at h;unfold Qml;exact ⟨Ad (by omega),by omega⟩
theorem Qs0 (m:Yw):∀ k∈Vd m,1≤k∧k≤10:=by
 have ifr:∀ {P:Prop} [Decidable P] {a b:List Int},(∀ k∈a,1≤k∧k≤10)->(∀ k∈b,1≤k∧k≤10)->∀ k∈(if P then a else b),1≤k∧k≤10:=fun ha hb=>by split<;>assumption
 unfold Vd
 repeat' first | (refine ifr ?_ ?_) | decide
theorem Qcz {n b:Int} {u:Bool} (h:Q80 n b u=true):0≤n∧n≤b:=by
 unfold Q80 at h;simp only [Lc,Ag] at h;omega
theorem Qnw {m:Yw} (hf:Qfs m.Flags) (h:Qkw m=true):∀ k∈Vd m,Qr2 m k:=fun k hk=>by
 unfold Qkw at h;simp only [Lc] at h;obtain ⟨_,h3,h4,h5,h6,h7,h8,_⟩:=h;exact ⟨fun _=>hf,fun _=>Qcz h3,fun _=>Qcz h4,fun _=>Qcz h5,fun _=>Qcz h6,fun _=>Qcz h7,fun _=>Qcz h8,Qs0 m k hk⟩
theorem Qq5 {k:Int} {f:Zh} (h:Qji k f=true):Qfs f:=by
 unfold Qji at h;rw [Lc] at h;exact Aa h.1
theorem Z07 {m:Yw} {l:List Int} {a b:Int} (hab:a≠b) (ha:a∈l) (hb:b∈l):(Q64 m a).length+(Q64 m b).length≤(l.flatMap (Q64 m)).length:=by
 have one:∀ (l:List Int) x,x∈l->(Q64 m x).length≤(l.flatMap (Q64 m)).length:=fun l x=>by
  induction l with
  | nil=>intro h;simp at h
  | cons k l ih=>
   intro h;rw [Mu,Ln]
   rcases Lx.1 h with rfl | h
   ·omega
   have:=ih h;omega
 induction l with
 | nil=>simp at ha
 | cons k l ih=>
  rw [Mu,Ln]
  rcases Lx.1 ha with ea | la
  ·rcases Lx.1 hb with eb | lb
   ·exact absurd (ea.trans eb.symm) hab
   have:=one l b lb;rw [ea];omega
  rcases Lx.1 hb with eb | lb
  ·have:=one l a la;rw [eb];omega
  have:=ih la lb;omega
theorem Qnm {m:Yw} {l:List Int} {a:Int} (ha:a∈l):(Q64 m a).length≤(l.flatMap (Q64 m)).length:=by
 induction l with
 | nil=>simp at ha
 | cons k l ih=>
  rw [Mu,Ln]
  rcases Lx.1 ha with rfl | h
  ·omega
  have:=ih h;omega
theorem Qw5 {m:Yw} (h:Qkw m=true):m.Name.length+m.Data.length≤(Qch m).length:=by
 unfold Qkw at h;simp only [Lc,Nl,Ag] at h;obtain ⟨_,_,_,_,_,_,_,h9,h10,_⟩:=h;unfold Qch;have e9:Q64 m 9=m.Name:=rfl;have e10:Q64 m 10=m.Data:=rfl
 rcases h9 with h9 | h9<;>rcases h10 with h10 | h10
 ·have:=Z07 (m:=m) (a:=9) (b:=10) (by decide) h9 h10;rwa [e9,e10] at this
 ·have:=Qnm (m:=m) h9;rw [e9] at this;rw [h10];simpa using this
 ·have:=Qnm (m:=m) h10;rw [e10] at this;rw [h9];simpa using this
 rw [h9,h10];simp
theorem Q9q {m:Yw} (hn:m.Name.length≤100000) (hd:m.Data.length≤100000):(Qch m).length≤400000:=by
 unfold Qch;have h4:=Qoe m
 have:∀ l:List Int,(l.flatMap (Q64 m)).length≤100000 * l.length:=fun l=>by
  induction l with
  | nil=>simp
  | cons k l ih=>rw [Mu,Ln,Ma];have:=Qa0 (m:=m) k hn hd (by omega);omega
 have:=this (Vd m);omega
theorem Z7o {m:Yw} (h:snE m=0):m.Type'∈Q6q∧Qfs m.Flags∧Qkw m=true∧hdX m.Type' (Qch m).length=(hdS m.Type' (Qch m).length,0):=by
 unfold snE at h
 by_cases hk:m.Type'∈Q6q
 rotate_left
 ·rw [Ae hk] at h;exact absurd h (by decide)
 rw [Af hk] at h
 by_cases hm:Qji m.Type' m.Flags=true
 rotate_left
 ·rw [Ae hm] at h;exact absurd h (by decide)
 rw [Af hm] at h;split at h
 ·exact absurd h (by decide)
 unfold tlE at h
 by_cases hr:Qkw m=true
 rotate_left
 ·rw [Ae hr] at h;exact absurd h (by decide)
 rw [Af hr] at h;refine ⟨hk,Qq5 hm,hr,?_⟩
 by_cases h1:Qn4 m=0
 rotate_left
 ·rw [Ae h1] at h;exact absurd h h1
 rw [Af h1] at h
 by_cases h2:Qqz m=0
 rotate_left
 ·rw [Ae h2] at h;exact absurd h h2
 rw [Af h2] at h;unfold hdX at h ⊢;rw [Af (Qay hk).1] at h ⊢;split at h
 ·exact absurd h (by decide)
 rename_i g;rw [Ae g]
section
variable {m:Yw} (hn:m.Name.length≤70000) (hd:m.Data.length≤70000)
include hn hd
theorem Z2f (hk:m.Type'∈Q6q) (hf:Qfs m.Flags):TotP (fun N=>(Ql N (⟨2,m,[],false⟩:Q0)).bind fun v12=>
 cond v12.2.bad
 (some 2)
 (cond (!(((v12.2.m.Type':Int) == m.Type')&&(((v12.2.m.Flags.Dup:Bool) == m.Flags.Dup)&&(((v12.2.m.Flags.QoS:Int) == m.Flags.QoS)&&(((v12.2.m.Flags.Retain:Bool) == m.Flags.Retain)&&(((v12.2.m.Flags.Will:Bool) == m.Flags.Will)&&(((v12.2.m.Flags.Clean:Bool) == m.Flags.Clean)&&(((v12.2.m.Flags.Type':Int) == m.Flags.Type')&&(((v12.2.m.Gateway:Int) == 0)&&(((v12.2.m.Radius:Int) == 0)&&(((v12.2.m.Time:Int) == 0)&&(((v12.2.m.Timed:Bool) == false)&&(((v12.2.m.TopicID:Int) == 0)&&(((v12.2.m.MsgID:Int) == 0)&&(((v12.2.m.Code:Int) == 0)&&(((v12.2.m.Name:List UInt8) == [])&&(((v12.2.m.Data:List UInt8) == [])&&true)))))))))))))))))
 (some 2)
 ((Wz N m).bind fun v16=>
 cond (!v16)
 (some 2)
 ((Xo N m).bind fun v19=>
 cond (Q2 .neq v19 0)
 (some v19)
 ((Vq N m).bind fun v22=>
 cond (Q2 .neq v22 0)
 (some v22)
 ((V6 N m).bind fun v25=>
 (Xe N m.Type' (v25.length:Int)).bind fun v27=>
 some v27.2)))))) (· = tlE m):=by
 have e:=Qzw m hk;unfold Z1o at e;unfold tlE;refine TotP.bindE (Qgt m hk) ?_;show TotP (fun N=>cond (bdN m) _ _) _;rw [Qzh m (Z0e m) rfl];refine TotP.cond (fun g => .ret ?_) (fun g1=>?_)
 ·rw [g] at e;rw [← e];rfl
 rw [g1] at e;refine TotP.cond (fun g => .ret ?_) (fun g2=>?_)
 ·rw [bN g] at e;rw [← e];rfl
 rw [bP g2] at e;refine TotP.bindE (.of fun N=>Z7f N m hk) ?_;refine TotP.cond (fun g => .ret ?_) (fun g3=>?_)
 ·rw [bN g] at e;rw [← e];rfl
 rw [bP g3] at e;have e:Qkw m=true:=e.symm;rw [Af e];refine TotP.bindE (Z0g m) ?_;rw [Je];refine TotP.cond (fun g => .ret (by rw [Ae (Aa g)])) (fun g=>?_);rw [Af (Decidable.byContradiction fun x=>Ac g x)];refine TotP.bindE (Qzj m hn) ?_;rw [Je];refine TotP.cond (fun g => .ret (by rw [Ae (Aa g)])) (fun g=>?_);rw [Af (Decidable.byContradiction fun x=>Ac g x)];have hl:=Q9q (m:=m) (by omega) (by omega);refine TotP.bindE ⟨11,fun N hN=>Qz8 hk (by omega) (by omega) (Qnw hf e) (by omega)⟩ ?_;exact TotP.bindE ⟨11,fun N hN=>Qpf (by omega) m.Type' ((Qch m).length:Int) (by omega)⟩ (.ret rfl)
theorem Z2h (hk:m.Type'∈Q6q) (hf:Qfs m.Flags):TotP (fun N=>(Qw N m).bind fun v11=>
 cond (!v11)
 (some 2)
 ((Z4 N m).bind fun v14=>
 cond (Q2 .eql v14 0)
 ((Zc N m).bind fun v17=>
 cond (Q2 .eql v17 0)
 (cond (Q2 .gtr (wrap .i64 ((m.Name.length:Int)+(m.Data.length:Int))) 65535)
 (some 4)
 ((Zd N m).bind fun v21=>
 (Z7 N m.Type' (v21.length:Int)).bind fun v23=>
 some v23.2))
 (some v17))
 (some v14))) (· = tlE m):=by
 unfold tlE;refine TotP.bindE ⟨101,fun N hN=>Qs5 (by omega) m hk⟩ ?_;refine TotP.cond (fun g => .ret (by rw [Ae (by rw [bN g];decide)])) (fun g=>?_);have e:=bP g;rw [Af e];refine TotP.bindE (Qz1 m) ?_;rw [Zp];refine TotP.cond (fun g=>?_) (fun g => .ret (by rw [Ae (Ac g)]));rw [Af (Aa g)];refine TotP.bindE (Z0q m hn) ?_;rw [Zp];refine TotP.cond (fun g=>?_) (fun g => .ret (by rw [Ae (Ac g)]));rw [Af (Aa g),U3,show wrap .i64 ((m.Name.length:Int)+(m.Data.length:Int))=(m.Name.length:Int)+(m.Data.length:Int) by rw [IntKind.wrap_i64];omega];have hl:=Q9q (m:=m) (by omega) (by omega);have hg:=Qw5 e;refine TotP.cond (fun g => .ret ?_) (fun _=>?_)
 ·have g:=Aa g;unfold hdX;rw [Af (Qay hk).1,Af (by omega)]
 refine TotP.bindE ⟨11,fun N hN=>Z1j hk (by omega) (by omega) (Qnw hf e) (by omega)⟩ ?_;exact TotP.bindE ⟨11,fun N hN=>Qx1 (by omega) m.Type' ((Qch m).length:Int) (by omega)⟩ (.ret rfl)
theorem Qok:Tot (fun N=>Uh N m) (snE m):=by
 refine TotP.tot ?_;unfold Uh snE;refine TotP.bindE (v:=decide (m.Type'∈Q6q)) (.of fun N=>?_) ?_
 ·unfold J1;rw [Qtu,Lf,Je]
  by_cases h:m.Type'∈Q6q
  ·obtain ⟨h1,h2⟩:=Qay h;rw [h1,Ad h,Ad h2];rfl
  rw [Ab h]
  cases h1:Qml m.Type' with
  | false=>rfl
  | true=>rw [Ab fun h2=>h (Qtv h1 h2)];rfl
 refine TotP.cond (fun g => .ret (by have:=bN g;rw [Ae (Ac this)])) (fun g=>?_);have hk:m.Type'∈Q6q:=Aa (bP g);rw [Af hk];refine TotP.bindE (.of fun N=>Z7z N m.Type' m.Flags) ?_;refine TotP.cond (fun g => .ret (by rw [Ae (by rw [bN g];decide)])) (fun g=>?_);have hf:=Qq5 (bP g);rw [Af (bP g)];refine TotP.bindE (v:=Qrh m) (.of fun N=>?_) ?_
 ·unfold Gr Qrh;rw [Zp,Zp]
  by_cases h1:m.Type'=7<;>by_cases h2:m.Type'=26<;>simp [h1,h2]
 have tl:=Z2f hn hd hk hf;refine TotP.cond (fun gw=>?_) (fun gw=>by rw [Ae (by rw [gw];simp)];exact tl);rw [Uz];refine TotP.cond (fun gn=>?_) (fun gn=>by rw [Ae fun x=>Ac gn x.2.1];exact tl);show TotP (fun N=>cond (!(zfl m.Flags)) _ _) _;refine TotP.cond (fun gz => .ret (by rw [Af ⟨gw,Aa gn,bN gz⟩])) (fun gz=>by rw [Ae fun x=>by rw [bP gz] at x;exact absurd x.2.2 (by decide)];exact tl)
theorem Qxv:Tot (fun N=>X9 N m) (snE m):=by
 refine TotP.tot ?_
 have key:∀ P:Nat->Option Int,(m.Type'∈Q6q->Qji m.Type' m.Flags=true->TotP P (· = if Qrh m=true∧m.Name = []∧zfl m.Flags=false then 7 else tlE m))->TotP (fun N=>(Ye N m.Type').bind fun v2=>cond (!v2) (some 8) (cond (Q2 .eql m.Type' 254) (some 8) ((Xb N m.Type' m.Flags).bind fun v6=>cond (!v6) (some 7) (P N)))) (· = snE m):=fun P hP=>by
  unfold snE;refine TotP.bindE (.of fun N=>Qul N m.Type') ?_;refine TotP.cond (fun g => .ret (by rw [Ae fun h=>by rw [(Qay h).1] at g;cases g])) (fun g=>?_);rw [Zp];refine TotP.cond (fun g => .ret (by rw [Ae fun h=>(Qay h).2 (Aa g)])) (fun g2=>?_);have hk:=Qtv (bP g) (Ac g2);rw [Af hk];refine TotP.bindE (.of fun N=>Z80 N m.Type' m.Flags) ?_;refine TotP.cond (fun g => .ret (by rw [Ae (by rw [bN g];decide)])) (fun g=>?_);rw [Af (bP g)];exact hP hk (bP g)
 have tl:m.Type'∈Q6q->Qji m.Type' m.Flags=true->¬ (Qrh m=true∧m.Name = []∧zfl m.Flags=false)->TotP (fun N=>(Qw N m).bind fun v11=>
   cond (!v11)
   (some 2)
   ((Z4 N m).bind fun v14=>
   cond (Q2 .eql v14 0)
   ((Zc N m).bind fun v17=>
   cond (Q2 .eql v17 0)
   (cond (Q2 .gtr (wrap .i64 ((m.Name.length:Int)+(m.Data.length:Int))) 65535)
   (some 4)
   ((Zd N m).bind fun v21=>
   (Z7 N m.Type' (v21.length:Int)).bind fun v23=>
   some v23.2))
   (some v17))
   (some v14))) (· = if Qrh m=true∧m.Name = []∧zfl m.Flags=false then 7 else tlE m):=fun hk hm hw=>by
  rw [Ae hw];exact Z2h hn hd hk (Qq5 hm)
 have wil:Qrh m=true->m.Type'∈Q6q->Qji m.Type' m.Flags=true->TotP (fun N=>cond (Jz .eql m.Name []) (cond (!(zfl m.Flags)) (some 7) ((Qw N m).bind fun v11=>
   cond (!v11)
   (some 2)
   ((Z4 N m).bind fun v14=>
   cond (Q2 .eql v14 0)
   ((Zc N m).bind fun v17=>
   cond (Q2 .eql v17 0)
   (cond (Q2 .gtr (wrap .i64 ((m.Name.length:Int)+(m.Data.length:Int))) 65535)
   (some 4)
   ((Zd N m).bind fun v21=>
   (Z7 N m.Type' (v21.length:Int)).bind fun v23=>
   some v23.2))
   (some v17))
   (some v14)))) ((Qw N m).bind fun v11=>
   cond (!v11)
   (some 2)
   ((Z4 N m).bind fun v14=>
   cond (Q2 .eql v14 0)
   ((Zc N m).bind fun v17=>
   cond (Q2 .eql v17 0)
   (cond (Q2 .gtr (wrap .i64 ((m.Name.length:Int)+(m.Data.length:Int))) 65535)
   (some 4)
   ((Zd N m).bind fun v21=>
   (Z7 N m.Type' (v21.length:Int)).bind fun v23=>
   some v23.2))
   (some v17))
   (some v14)))) (· = if Qrh m=true∧m.Name = []∧zfl m.Flags=false then 7 else tlE m):=fun hw hk hm=>by
  rw [Uz];refine TotP.cond (fun gn=>?_) (fun gn=>tl hk hm fun x=>Ac gn x.2.1);exact TotP.cond (fun gz => .ret (by rw [Af ⟨hw,Aa gn,bN gz⟩])) (fun gz=>tl hk hm fun x=>by rw [bP gz] at x;exact absurd x.2.2 (by decide))
 unfold X9;rw [Zp,Zp];refine TotP.cond (fun g=>key _ (wil (Ad (.inl (Aa g))))) (fun g7=>?_);refine TotP.cond (fun g=>key _ (wil (Ad (.inr (Aa g))))) (fun g26=>?_);have hw:Qrh m=false:=Ab (by have:=Ac g7;have:=Ac g26;omega)
 refine key _ fun hk hm=>tl hk hm fun x=>by rw [hw] at x;exact absurd x.1 (by decide)
theorem Qxh:Tot (fun N=>Xp N m) (if snE m=0 then (snB m,0) else ([],snE m)):=by
 refine TotP.tot ?_;unfold Xp;refine TotP.bindE (Qok hn hd) ?_;rw [Je];refine TotP.cond (fun g => .ret (by rw [Ae (Aa g)])) (fun g=>?_);have h0:snE m=0:=Decidable.byContradiction fun x=>Ac g x;obtain ⟨hk,hf,hr,hx⟩:=Z7o h0;have hl:=Q9q (m:=m) (by omega) (by omega);rw [Af h0];refine TotP.bindE ⟨11,fun N hN=>Qz8 hk (by omega) (by omega) (Qnw hf hr) (by omega)⟩ ?_;refine TotP.bindE ⟨11,fun N hN=>Qpf (by omega) m.Type' ((Qch m).length:Int) (by omega)⟩ ?_;rw [hx];refine TotP.cond (fun g=>nomatch g) (fun _=>?_);refine TotP.chk (by rw [Ls];have:(hdS m.Type' (Qch m).length).length≤4:=(by unfold hdS;split<;>simp [Wm]);show (hdS m.Type' (Qch m).length).length+_≤_;omega) (.ret rfl)
end
end
end Go.Av
namespace Go.Av
noncomputable section
def Qfu (h:Q0a):Bool:=decide (h.Radius≥0)&&(decide (h.Radius≤3)&&(decide ((h.Node.length:Int)≥1)&&decide ((h.Node.length:Int)≤32)))
theorem Z0r (N:Nat) (h:Q0a):J3 N h=some (Qfu h):=by
 unfold J3 Qfu;rw [Jm,Vz,Jm,Vz];cases decide (h.Radius≥0)<;>cases decide (h.Radius≤3)<;>cases decide ((h.Node.length:Int)≥1)<;>rfl
def Quv (h:Q0a):List UInt8:=Q12 (h.Node.length+3) 1++(Q12 254 1++(Q12 h.Radius.toNat 1++h.Node))
theorem Qub {h:Q0a} (g:Qfu h=true):(0≤h.Radius∧h.Radius≤3)∧1≤h.Node.length∧h.Node.length≤32:=by
 unfold Qfu at g;simp only [Lc,Ag] at g;omega
theorem Qkp {h:Q0a} (g:Qfu h=true):(Quv h).length≤35:=by
 have:=Qub g;unfold Quv;simp only [Ln,Wm];omega
theorem Z1c {N:Nat} (hN:10<N) {h:Q0a} (g:Qfu h=true):Xu N h=some (Quv h):=by
 obtain ⟨h1,h2,h3⟩:=Qub g
 have pt:∀ (x:Int) (w:Nat),0≤x∧x≤65535->w≤8->Qt N (wrap .u64 x) (w:Int)=some (Q12 x.toNat w):=fun x w h hw=>by
  have:=Qau N x.toNat w (by omega) hw hN
  rwa [show ((x.toNat:Nat):Int)=wrap .u64 x by rw [Qvz (by omega)];omega] at this
 unfold Xu
 have e3:wrap .i64 (3+(h.Node.length:Int))=((h.Node.length+3:Nat):Int):=by rw [IntKind.wrap_i64];omega
 rw [e3];have p1:=pt ((h.Node.length+3:Nat):Int) 1 (by omega) (by omega);have p2:=pt 254 1 (by omega) (by omega);have p3:=pt h.Radius 1 (by omega) (by omega);rw [show wrap .u64 254=(254:Int) from rfl] at p2;show (Qt N _ ((1:Nat):Int)).bind (fun v1=>(Qt N 254 ((1:Nat):Int)).bind fun v3=>cond (Nat.ble (v1.length+v3.length) 4611686018427387904) ((Qt N (wrap .u64 h.Radius) ((1:Nat):Int)).bind fun v6=>cond (Nat.ble ((v1++v3).length+v6.length) 4611686018427387904) (cond (Nat.ble (((v1++v3)++v6).length+h.Node.length) 4611686018427387904) (some (((v1++v3)++v6)++h.Node)) none) none) none)=_;rw [p1,Lf,p2,Lf,p3];simp only [Lf,Ln,Wm];rw [show Nat.ble (1+1) 4611686018427387904=true from rfl,show Nat.ble (1+1+1) 4611686018427387904=true from rfl,show Nat.ble (1+1+1+h.Node.length) 4611686018427387904=true from by rw [Ls];omega];simp only [Quv,Bf];rfl
def Qhx (l:List Q0a):List UInt8:=l.flatMap Quv
theorem Qr4 {l:List Q0a} {i:Nat} (hi:i<l.length):Qhx (l.drop i)=Quv l[i]++Qhx (l.drop (i+1)):=by
 unfold Qhx;rw [Bb hi,Mu]
theorem Qss {l:List Q0a} (hg:l.all Qfu=true):(Qhx l).length≤35 * l.length:=by
 induction l with
 | nil=>simp [Qhx]
 | cons h l ih=>
  rw [Cv,Lc] at hg;have:=Qkp hg.1;have:=ih hg.2;simp only [Qhx,Mu,Ln,Ma] at this ⊢;omega
def Z1x (l:Vt):Bool:=decide (l.MaxPacket≥16)&&(decide (l.MaxPacket≤1048576)&&(decide (l.MaxDepth≥0)&&decide (l.MaxDepth≤32)))
theorem Z1p (N:Nat) (l:Vt):Uo N l=some (Z1x l):=by
 unfold Uo Z1x;rw [Jm,Vz,Jm,Vz];cases decide (l.MaxPacket≥16)<;>cases decide (l.MaxPacket≤1048576)<;>cases decide (l.MaxDepth≥0)<;>rfl
def dgE (d:Yt) (l:Vt):Int:=if Z1x l=true then (if d.Hops.length>4 then 12 else if d.Hops.all Qfu=true then (if snE d.Msg=0 then (if (((Qhx d.Hops).length+(snB d.Msg).length:Nat):Int)>l.MaxPacket then 4 else 0) else snE d.Msg) else 2) else 2
def dgB (d:Yt):List UInt8:=Qhx d.Hops++snB d.Msg
section
variable {d:Yt} (hn:d.Msg.Name.length≤70000) (hd:d.Msg.Data.length≤70000)
include hn hd
theorem Qwe (h0:snE d.Msg=0):(snB d.Msg).length≤500000:=by
 have hl:=Q9q (m:=d.Msg) (by omega) (by omega);unfold snB;rw [Ln];have:(hdS d.Msg.Type' (Qch d.Msg).length).length≤4:=(by unfold hdS;split<;>simp [Wm]);omega
omit hn hd in
theorem Qq6 {L:Nat->List UInt8->Int->Option (List UInt8×Int)} {Z:List UInt8->Option (List UInt8×Int)} (N:Nat) (hN:10<N) (hh:d.Hops.length≤4) (hg:d.Hops.all Qfu=true)
  (hL:∀ n o s,L (n+1) o s=cond (Q2 .lss s ((Qi Q0a.cells d.Hops).length:Int)) ((idx d.Hops s).bind fun y46=>(Xu N y46).bind fun v48=>cond (Nat.ble (o.length+v48.length) 4611686018427387904) (L n (o++v48) (wrap .i64 (s+1))) none) (Z o)) :
  ∀ (j i:Nat) (o:List UInt8),i≤d.Hops.length->d.Hops.length<j+i->o.length≤100 * i->L j o (i:Int)=Z (o++Qhx (d.Hops.drop i))
 | 0,i,o,h1,h2,_=>by omega
 | j+1,i,o,h1,h2,ho=>by
  rw [hL,Qy,Qs]
  by_cases hi:i<d.Hops.length
  ·rw [Ad (show (i:Int)<(d.Hops.length:Int) by omega)];show (idx d.Hops (i:Int)).bind _=_;have hk:Qfu d.Hops[i]=true:=Lq.1 hg _ (Mn hi);have hp:=Qkp hk;rw [show idx d.Hops (i:Int)=some d.Hops[i] from by show d.Hops[i]? = _;exact Lb hi,Lf,Z1c hN hk,Lf,show Nat.ble (o.length+(Quv d.Hops[i]).length) 4611686018427387904=true from by rw [Ls];omega,show wrap .i64 ((i:Int)+1)=((i+1:Nat):Int) by rw [IntKind.wrap_i64];omega];show L j (o++Quv d.Hops[i]) ((i+1:Nat):Int)=_;rw [Qq6 N hN hh hg hL j (i+1) _ (by omega) (by omega) (by rw [Ln];omega),Qr4 hi,Bf]
  rw [Ab (by omega),show d.Hops.drop i = [] from Cf.2 (by omega)];simp [Qhx]
omit hn hd in
theorem Qpc {l:Vt} (N:Nat) (hM:Xp N d.Msg=some (snB d.Msg,0)):∀ (j i:Nat),i≤d.Hops.length->d.Hops.length≤4->d.Hops.length<j+i->(d.Hops.take i).all Qfu=true->Ze N d l j (i:Int)=if d.Hops.all Qfu=true then Yr N d l (snB d.Msg,0) N [] 0 else some ([],2)
 | 0,i,h1,h3,h2,_=>by omega
 | j+1,i,h1,h3,h2,ht=>by
  rw [Ze,Qy,Qs]
  by_cases hi:i<d.Hops.length
  ·rw [Ad (show (i:Int)<(d.Hops.length:Int) by omega)];show (idx d.Hops (i:Int)).bind _=_;rw [show idx d.Hops (i:Int)=some d.Hops[i] from by show d.Hops[i]? = _;exact Lb hi,Lf];unfold Ud;rw [Z0r,Lf,Lf]
   cases hk:Qfu d.Hops[i] with
   | false=>
    rw [Jm,Ad (show (i:Int)≥0 by omega),Ae fun h=>by rw [Lq.1 h _ (Mn hi)] at hk;cases hk];rfl
   | true=>
    show Ze N d l j _=_;rw [show wrap .i64 ((i:Int)+1)=((i+1:Nat):Int) by rw [IntKind.wrap_i64];omega,Qpc N hM j (i+1) (by omega) h3 (by omega) (by rw [Bn hi,List.all_append,ht];simp [hk])]
  rw [Ab (by omega),Af (by rw [← ht,Mx (by omega)])];show (Xp N d.Msg).bind _=_;rw [hM];rfl
omit hn hd in
theorem Qke {l:Vt} (N:Nat) (h0:snE d.Msg≠0) (hM:Xp N d.Msg=some ([],snE d.Msg)):∀ (j i:Nat),i≤d.Hops.length->d.Hops.length≤4->d.Hops.length<j+i->(d.Hops.take i).all Qfu=true->Ze N d l j (i:Int)=if d.Hops.all Qfu=true then some ([],snE d.Msg) else some ([],2)
 | 0,i,h1,h3,h2,_=>by omega
 | j+1,i,h1,h3,h2,ht=>by
  rw [Ze,Qy,Qs]
  by_cases hi:i<d.Hops.length
  ·rw [Ad (show (i:Int)<(d.Hops.length:Int) by omega)];show (idx d.Hops (i:Int)).bind _=_;rw [show idx d.Hops (i:Int)=some d.Hops[i] from by show d.Hops[i]? = _;exact Lb hi,Lf];unfold Ud;rw [Z0r,Lf,Lf]
   cases hk:Qfu d.Hops[i] with
   | false=>
    rw [Jm,Ad (show (i:Int)≥0 by omega),Ae fun h=>by rw [Lq.1 h _ (Mn hi)] at hk;cases hk];rfl
   | true=>
    show Ze N d l j _=_;rw [show wrap .i64 ((i:Int)+1)=((i+1:Nat):Int) by rw [IntKind.wrap_i64];omega,Qke N h0 hM j (i+1) (by omega) h3 (by omega) (by rw [Bn hi,List.all_append,ht];simp [hk])]
  rw [Ab (by omega),Af (by rw [← ht,Mx (by omega)])];show (Xp N d.Msg).bind _=_;rw [hM,Lf,Je,Ad h0];rfl
theorem Qx8 (l:Vt):Tot (fun N=>Jk N d l) (if dgE d l=0 then (dgB d,0) else ([],dgE d l)):=by
 refine TotP.tot ?_;unfold Jk;refine TotP.bindE (.of fun N=>Z1p N l) ?_;refine TotP.cond (fun g => .ret ?_) (fun g=>?_)
 ·have:dgE d l=2:=by unfold dgE;rw [Ae (by rw [bN g];decide)]
  rw [this];rfl
 have hr:=bP g;rw [Qy,U3];refine TotP.cond (fun g => .ret ?_) (fun g=>?_)
 ·have:dgE d l=12:=by unfold dgE;rw [Af hr,Af (by have:=Aa g;omega)]
  rw [this];rfl
 have hh:¬ d.Hops.length>4:=by have:=Ac g;omega
 have hM:=Qxh hn hd
 by_cases h0:snE d.Msg=0
 ·rw [Af h0] at hM;obtain ⟨K,hK⟩:=hM;refine ⟨_,rfl,max K 11,fun N hN=>?_⟩;have hM:=hK N (by omega);have hsl:=Qwe hn hd h0;show Ze N d l N ((0:Nat):Int)=_;rw [Qpc N hM N 0 (by omega) (by omega) (by omega) rfl]
  by_cases hg:d.Hops.all Qfu=true
  ·have hhl:=Qss hg;rw [Af hg];have:=Qq6 (d:=d) (L:=Yr N d l (snB d.Msg,0)) (Z:=fun o=>cond (Q2 .gtr (wrap .i64 ((o.length:Int)+((snB d.Msg).length:Int))) l.MaxPacket) (some ([],4)) (cond (Nat.ble (o.length+(snB d.Msg).length) 4611686018427387904) (some ((o++snB d.Msg),0)) none)) N (by omega) (by omega) hg (fun n o s=>by rw [Yr]) N 0 [] (by omega) (by omega) (by simp);rw [show ((0:Nat):Int)=0 from rfl] at this;rw [this,Nv,Nz,U3,show wrap .i64 (((Qhx d.Hops).length:Int)+((snB d.Msg).length:Int))=(((Qhx d.Hops).length+(snB d.Msg).length:Nat):Int) by rw [IntKind.wrap_i64];omega]
   by_cases hx:(((Qhx d.Hops).length+(snB d.Msg).length:Nat):Int)>l.MaxPacket
   ·have:dgE d l=4:=by unfold dgE;rw [Af hr,Ae hh,Af hg,Af h0,Af hx]
    rw [Ad hx,this];rfl
   have:dgE d l=0:=by unfold dgE;rw [Af hr,Ae hh,Af hg,Af h0,Ae hx]
   rw [Ab hx,this,Af rfl,show Nat.ble ((Qhx d.Hops).length+(snB d.Msg).length) 4611686018427387904=true from by rw [Ls];omega];rfl
  have:dgE d l=2:=by unfold dgE;rw [Af hr,Ae hh,Ae hg]
  rw [Ae hg,this];rfl
 rw [Ae h0] at hM;obtain ⟨K,hK⟩:=hM;refine ⟨_,rfl,max K 11,fun N hN=>?_⟩;have hM:=hK N (by omega);show Ze N d l N ((0:Nat):Int)=_;rw [Qke N h0 hM N 0 (by omega) (by omega) (by omega) rfl]
 by_cases hg:d.Hops.all Qfu=true
 ·have:dgE d l=snE d.Msg:=by unfold dgE;rw [Af hr,Ae hh,Af hg,Ae h0]
  rw [Af hg,this,Ae h0]
 have:dgE d l=2:=by unfold dgE;rw [Af hr,Ae hh,Ae hg]
 rw [Ae hg,this];rfl
theorem Qv6 (l:Vt):Tot (fun N=>Vn N d l) (dgE d l):=by
 refine TotP.tot ?_;unfold Vn;refine TotP.bindE (Qx8 hn hd l) (.ret ?_)
 by_cases h:dgE d l=0
 ·rw [Af h];exact h.symm
 rw [Ae h]
omit hn hd in
end
end
end Go.Av
namespace Go.Av
noncomputable section
theorem Q16 {T:Type} (c:T->List PV) (l:List T):(Qi c l).length=l.length:=by simp [Qi]
def few (m:Nat) (o:Q3):Prop:=o.L.length≤m∧∀ e∈o.L,e.l.length≤m
theorem Qdm {m:Nat} (hm:m≤1000) {o:Q3} (ho:few m o) (c:List UInt8):TotP (fun N=>Y1 N o c) (fun r=>r.1.length≤m∧r.2=o):=by
 unfold Y1;refine Q4a (L:=fun N n s=>Z9 N o c n s) o.L.length (fun _=>True) (fun i hi _=>?_) (fun _=>?_) trivial
 ·have hy:o.L[i].l.length≤m:=ho.2 _ (Mn hi);have:=ho.1;show Stp _ _ _ (fun N n=>cond (Q2 .lss (i:Int) ((Qi Q1.cells o.L).length:Int)) _ _);rw [Q16,Qs];refine Stp.cond (fun _=>?_) (fun h=>absurd (Ac h) (by omega));refine Stp.idx (Zo hi) ?_;refine Stp.cond (fun _=>?_) (fun _=>?_)
  ·refine Stp.idx (Zo hi) ?_;refine Stp.cond (fun _=>Stp.ret ⟨Ms _,rfl⟩) (fun _=>?_);refine Stp.chk (by rw [Q16,Ls];omega) ?_;exact Stp.ret ⟨by simpa using hy,rfl⟩
  rw [w64 _ (by omega)];exact Stp.go (L:=fun N n s=>Z9 N o c n s) _ ⟨by omega,trivial⟩
 show Stp _ _ _ (fun N n=>cond (Q2 .lss ((o.L.length:Nat):Int) ((Qi Q1.cells o.L).length:Int)) _ _);rw [Q16,Qs];refine Stp.cond (fun h=>absurd (Aa h) (by omega)) (fun _=>Stp.ret ⟨Ms _,rfl⟩)
theorem Qgf {m:Nat} (hm:m≤1000) {l:List Qh} (hl:l.length≤m) (t:Qh):TotP (fun N=>Wu N l t) (fun r=>r.length≤m+1):=by
 unfold Wu;refine Q5w (S:=Bool×Int×List Qh) (L:=fun N n s=>Zj N l t n s.1 s.2.1 s.2.2) (fun s=>∃ i:Nat,s.2.1=(i:Int)∧i≤l.length∧s.2.2.length≤i+(if s.1=true then 1 else 0)) (fun s=>l.length - s.2.1.toNat) ?_ (false,0,[]) ⟨0,rfl,Ms _,by simp⟩
 rintro ⟨b,j,out⟩ ⟨i,hj,hi,ho⟩
 simp only at hj hi ho
 subst hj;show Stp _ _ _ (fun N n=>cond (Q2 .lss (i:Int) ((Qi Qh.cells l).length:Int)) _ _);rw [Q16,Qs];dsimp only
 have hob:out.length≤i+1:=by revert ho;split<;>omega
 refine Stp.cond (fun h=>?_) (fun _=>?_)
 ·have hlt:i<l.length:=by have:=Aa h;omega
  have ew:wrap .i64 ((i:Int)+1)=((i+1:Nat):Int):=by rw [w64 _ (by omega)];omega
  rw [ew];refine Stp.cond (fun hb=>?_) (fun hb=>?_)
  ·have hb:b=false:=by simpa using hb
   subst hb
   have ho:out.length≤i:=by simpa using ho
   refine Stp.idx (Zo hlt) ?_;refine Stp.cond (fun _=>?_) (fun _=>?_)
   ·refine Stp.chk (by rw [Ls];omega) ?_;refine Stp.idx (Zo hlt) ?_;refine Stp.chk (by rw [Ls];omega) ?_;exact Stp.go (L:=fun N n s=>Zj N l t n s.1 s.2.1 s.2.2) (true,((i+1:Nat):Int),(out ++ [t]) ++ [l[i]]) ⟨⟨i+1,rfl,hlt,by simp;omega⟩,by simp only [Lu];omega⟩
   refine Stp.idx (Zo hlt) ?_;refine Stp.chk (by rw [Ls];omega) ?_;exact Stp.go (L:=fun N n s=>Zj N l t n s.1 s.2.1 s.2.2) (false,((i+1:Nat):Int),out ++ [l[i]]) ⟨⟨i+1,rfl,hlt,by simp;omega⟩,by simp only [Lu];omega⟩
  refine Stp.idx (Zo hlt) ?_;refine Stp.chk (by rw [Ls];omega) ?_;exact Stp.go (L:=fun N n s=>Zj N l t n s.1 s.2.1 s.2.2) (b,((i+1:Nat):Int),out ++ [l[i]]) ⟨⟨i+1,rfl,hlt,by simp only [Ln,Bi];omega⟩,by simp only [Lu];omega⟩
 refine Stp.cond (fun hb=>?_) (fun _=>Stp.ret (by omega))
 have hb:b=false:=by simpa using hb
 subst hb
 have ho:out.length≤i:=by simpa using ho
 refine Stp.chk (by rw [Ls];omega) ?_;exact Stp.ret (by simp;omega)
theorem Qg6 {m:Nat} (hm:m≤1000) {o:Q3} (ho:few m o) (c:List UInt8) {l:List Qh} (hl:l.length≤m+1):TotP (fun N=>Yk N o c l) (fun r=>few (m+1) r.2):=by
 unfold Yk;refine Q5w (S:=Bool×Int×List Q1) (L:=fun N n s=>Q7 N o c l n s.1 s.2.1 s.2.2)
  (fun s=>∃ i:Nat,s.2.1=(i:Int)∧i≤o.L.length∧s.2.2.length≤i+(if s.1=true then 1 else 0)∧∀ e∈s.2.2,e.l.length≤m+1) (fun s=>o.L.length - s.2.1.toNat) ?_ (_,0,[]) ⟨0,rfl,Ms _,by simp,fun e h=>by cases h⟩
 rintro ⟨b,j,out⟩ ⟨i,hj,hi,hq,hx⟩
 simp only at hj hi hq hx
 subst hj;have h1:=ho.1;show Stp _ _ _ (fun N n=>cond (Q2 .lss (i:Int) ((Qi Q1.cells o.L).length:Int)) _ _);rw [Q16,Qs];dsimp only
 have hob:out.length≤i+1:=by revert hq;split<;>omega
 have addx:∀ (l1:List Q1) (e:Q1),(∀ e∈l1,e.l.length≤m+1)->e.l.length≤m+1->∀ x∈l1 ++ [e],x.l.length≤m+1:=fun l1 e h1 h2 x hx=>by
  rcases Mh.1 hx with h | h
  ·exact h1 x h
  simp at h;subst h;exact h2
 refine Stp.cond (fun h=>?_) (fun _=>?_)
 ·have hlt:i<o.L.length:=by have:=Aa h;omega
  have hy:o.L[i].l.length≤m+1:=Nd (ho.2 _ (Mn hlt))
  have ew:wrap .i64 ((i:Int)+1)=((i+1:Nat):Int):=by rw [w64 _ (by omega)];omega
  rw [ew];refine Stp.idx (Zo hlt) ?_
  have go:∀ (b':Bool) (out':List Q1),out'.length≤i+1+(if b'=true then 1 else 0)->(∀ e∈out',e.l.length≤m+1)->Stp (fun N n (s:Bool×Int×List Q1)=>Q7 N o c l n s.1 s.2.1 s.2.2)
    (fun s'=>(∃ i:Nat,s'.2.1=(i:Int)∧i≤o.L.length∧s'.2.2.length≤i+(if s'.1=true then 1 else 0)∧∀ e∈s'.2.2,e.l.length≤m+1)∧o.L.length - s'.2.1.toNat<o.L.length - (i:Int).toNat) (fun r=>few (m+1) r.2)
    (fun N n=>Q7 N o c l n b' ((i+1:Nat):Int) out'):=fun b' out' h2 h3=>
   Stp.go (L:=fun N n (s:Bool×Int×List Q1)=>Q7 N o c l n s.1 s.2.1 s.2.2) (b',((i+1:Nat):Int),out') ⟨⟨i+1,rfl,hlt,h2,h3⟩,by simp only [Lu];omega⟩
  have keep:∀ b',b'=b->Stp (fun N n (s:Bool×Int×List Q1)=>Q7 N o c l n s.1 s.2.1 s.2.2)
    (fun s'=>(∃ i:Nat,s'.2.1=(i:Int)∧i≤o.L.length∧s'.2.2.length≤i+(if s'.1=true then 1 else 0)∧∀ e∈s'.2.2,e.l.length≤m+1)∧o.L.length - s'.2.1.toNat<o.L.length - (i:Int).toNat) (fun r=>few (m+1) r.2)
    (fun N n=>cond (Jz .neq o.L[i].client c) (cond (Nat.ble ((out.length+1+4096) * 40) 17592186044416) (Q7 N o c l n b' ((i+1:Nat):Int) (out ++ [o.L[i]])) none) (Q7 N o c l n b' ((i+1:Nat):Int) out)):=fun b' hb'=>by
   subst hb';refine Stp.cond (fun _=>?_) (fun _=>go _ _ (by omega) hx);refine Stp.chk (by rw [Ls];omega) ?_;exact go _ _ (by simp only [Ln,Bi];omega) (addx _ _ hx hy)
  refine Stp.cond (fun hb=>?_) (fun _=>keep b rfl);refine Stp.cond (fun _=>?_) (fun _=>keep b rfl)
  have hb:b=false:=by simpa using hb
  subst hb
  have hq:out.length≤i:=by simpa using hq
  refine Stp.chk (by rw [Ls];omega) ?_;refine Stp.cond (fun _=>?_) (fun _=>?_)
  ·refine Stp.chk (by rw [Ls];omega) ?_;exact go _ _ (by simp;omega) (addx _ _ (addx _ _ hx hl) hy)
  exact go _ _ (by simp;omega) (addx _ _ hx hl)
 refine Stp.cond (fun hb=>?_) (fun _=>Stp.ret ⟨by show out.length≤_;omega,hx⟩)
 have hb:b=false:=by simpa using hb
 subst hb
 have hq:out.length≤i:=by simpa using hq
 refine Stp.chk (by rw [Ls];omega) ?_;exact Stp.ret ⟨by show (out ++ [_]).length≤_;simp;omega,addx _ _ hx hl⟩
theorem Qtk {m:Nat} (hm:m≤1000) (c n:List UInt8) {v:List Qh×Q3} (hv:v.1.length≤m) (ho:few m v.2) :
  TotP (fun N=>Qf N c n v N 1 0) (fun r=>few (m+1) r.2):=by
 refine Q5w (S:=Int×Int) (L:=fun N k s=>Qf N c n v k s.1 s.2) (fun s=>∃ i j:Nat,s.2=(i:Int)∧i≤v.1.length∧s.1=(j:Int)∧j≤i+1) (fun s=>v.1.length - s.2.toNat) ?_ (1,0) ⟨0,1,rfl,Ms _,rfl,Li _⟩
 rintro ⟨f,k⟩ ⟨i,j,hk,hi,hf,hj⟩
 simp only at hk hf
 subst hk hf;have weak:few (m+1) v.2:=⟨Nd ho.1,fun e he=>Nd (ho.2 e he)⟩;show Stp _ _ _ (fun N n'=>cond (Q2 .lss (i:Int) ((Qi Qh.cells v.1).length:Int)) _ _);rw [Q16,Qs];dsimp only;refine Stp.cond (fun h=>?_) (fun _=>?_)
 ·have hlt:i<v.1.length:=by have:=Aa h;omega
  have ew:wrap .i64 ((i:Int)+1)=((i+1:Nat):Int):=by rw [w64 _ (by omega)];omega
  have ej:wrap .i64 ((j:Int)+1)=((j+1:Nat):Int):=by rw [w64 _ (by omega)];omega
  rw [ew,ej];refine Stp.idx (Zo hlt) ?_;refine Stp.cond (fun _=>?_) (fun _=>?_)
  ·refine Stp.idx (Zo hlt) ?_;exact Stp.ret weak
  refine Stp.idx (Zo hlt) ?_;refine Stp.cond (fun _=>?_) (fun _=>?_)
  ·exact Stp.go (L:=fun N k (s:Int×Int)=>Qf N c n v k s.1 s.2) (((j+1:Nat):Int),((i+1:Nat):Int)) ⟨⟨i+1,j+1,rfl,hlt,rfl,by omega⟩,by simp only [Lu];omega⟩
  exact Stp.go (L:=fun N k (s:Int×Int)=>Qf N c n v k s.1 s.2) ((j:Int),((i+1:Nat):Int)) ⟨⟨i+1,j,rfl,hlt,rfl,by omega⟩,by simp only [Lu];omega⟩
 refine Stp.cond (fun _=>Stp.ret weak) (fun _=>?_);refine Stp.bind (Qgf hm hv _) (fun w hw=>?_);refine Stp.bind (Qg6 hm ho c hw) (fun u hu=>?_);exact Stp.ret hu
end
end Go.Av
namespace Go.Av
noncomputable section
theorem Qfo {m:Nat} (hm:m≤900) {o:Q3} (ho:few m o) (c n:List UInt8) (hn:n.length≤maxLen):TotP (fun N=>Zt N o c n) (fun r=>few (m+1) r.2):=by
 have weak:few (m+1) o:=⟨Nd ho.1,fun e he=>Nd (ho.2 e he)⟩;unfold Zt;refine TotP.bindE (Q3a n hn) ?_;refine TotP.cond (fun _ => .ret weak) (fun _=>?_);refine TotP.bind (Qdm (by omega) ho c) (fun v hv=>?_);exact Qtk (by omega) c n hv.1 (by rw [hv.2];exact ho)
theorem Qqj {m:Nat} (hm:m≤900) (c n:List UInt8) (id:Int) {v:List Qh×Q3} (hv:v.1.length≤m) (ho:few m v.2) :
  TotP (fun N=>Qq N c n id v N 0) (fun r=>few (m+1) r.2):=by
 have weak:few (m+1) v.2:=⟨Nd ho.1,fun e he=>Nd (ho.2 e he)⟩;refine Q4a (L:=fun N k s=>Qq N c n id v k s) v.1.length (fun _=>True) (fun i hi _=>?_) (fun _=>?_) trivial
 ·show Stp _ _ _ (fun N k=>cond (Q2 .lss (i:Int) ((Qi Qh.cells v.1).length:Int)) _ _);rw [Q16,Qs];refine Stp.cond (fun _=>?_) (fun h=>absurd (Ac h) (by omega));refine Stp.idx (Zo hi) ?_;refine Stp.cond (fun _=>Stp.ret weak) (fun _=>?_);refine Stp.idx (Zo hi) ?_;refine Stp.cond (fun _=>Stp.ret weak) (fun _=>?_);rw [w64 _ (by omega)];exact Stp.go (L:=fun N k s=>Qq N c n id v k s) _ ⟨by omega,trivial⟩
 show Stp _ _ _ (fun N k=>cond (Q2 .lss ((v.1.length:Nat):Int) ((Qi Qh.cells v.1).length:Int)) _ _);rw [Q16,Qs];refine Stp.cond (fun h=>absurd (Aa h) (by omega)) (fun _=>Stp.fin ?_);refine TotP.bind (Qgf (by omega) hv _) (fun w hw=>?_);refine TotP.bind (Qg6 (by omega) ho c hw) (fun u hu=>?_);exact TotP.ret hu
theorem Qca {m:Nat} (hm:m≤900) {o:Q3} (ho:few m o) (c n:List UInt8) (id:Int) (hn:n.length≤maxLen):TotP (fun N=>Zq N o c n id) (fun r=>few (m+1) r.2):=by
 have weak:few (m+1) o:=⟨Nd ho.1,fun e he=>Nd (ho.2 e he)⟩;unfold Zq;refine TotP.bindE (Q3a n hn) ?_;refine TotP.cond (fun _ => .ret weak) (fun _=>?_);refine TotP.cond (fun _ => .ret weak) (fun _=>?_);refine TotP.cond (fun _ => .ret weak) (fun _=>?_);refine TotP.bind (Qdm (by omega) ho c) (fun v hv=>?_)
 have ho2:few m v.2:=by rw [hv.2];exact ho
 have weak2:few (m+1) v.2:=⟨Nd ho2.1,fun e he=>Nd (ho2.2 e he)⟩;refine Q4a (L:=fun N k s=>Qx N c n id v k s) v.1.length (fun _=>True) (fun i hi _=>?_) (fun _=>?_) trivial
 ·have:=hv.1;show Stp _ _ _ (fun N k=>cond (Q2 .lss (i:Int) ((Qi Qh.cells v.1).length:Int)) _ _);rw [Q16,Qs];refine Stp.cond (fun _=>?_) (fun h=>absurd (Ac h) (by omega));refine Stp.idx (Zo hi) ?_;refine Stp.cond (fun _=>Stp.ret weak2) (fun _=>?_);rw [w64 _ (by omega)];exact Stp.go (L:=fun N k s=>Qx N c n id v k s) _ ⟨by omega,trivial⟩
 show Stp _ _ _ (fun N k=>cond (Q2 .lss ((v.1.length:Nat):Int) ((Qi Qh.cells v.1).length:Int)) _ _);rw [Q16,Qs];refine Stp.cond (fun h=>absurd (Aa h) (by omega)) (fun _=>Stp.fin ?_);exact Qqj hm c n id hv.1 ho2
theorem Qnx {R:Reg} (hw:WR R) (c n:List UInt8) (hn:n.length≤maxLen):TotP (fun N=>Vp N R c n) (· = Qe8 (Q02 n) R c n):=by
 unfold Vp;refine TotP.bindE (Q3j n hn) ?_;rw [Af hw];exact .ret rfl
theorem Qv8 (R:Reg) (c n:List UInt8) (id:Int) (hn:n.length≤maxLen):TotP (fun N=>Jv N R c n id) (· = Qr1 (Q02 n) R c n id):=by
 unfold Jv;exact TotP.bindE (Q3j n hn) (.ret rfl)
def Q9l (t:List Q9):List (List UInt8×List UInt8×Int):=t.map fun y=>(y.Client,y.Name,y.ID)
def Que (t:List Q9) (N:Nat) (i:Int) (c:List Q1) (R:Reg) (go:Int->List Q1->Reg->Option Bool):Option Bool:=
 (idx t i).bind fun y103=>
 cond (Q2 .eql y103.ID 0)
 ((idx t i).bind fun y110=>
 (idx t i).bind fun y112=>
 (Vp N R y110.Client y112.Name).bind fun v114=>
 (idx t i).bind fun y116=>
 (idx t i).bind fun y118=>
 (Zt N (⟨c⟩:Q3) y116.Client y118.Name).bind fun v120=>
 go (wrap .i64 (i+1)) v120.2.L v114.2)
 ((idx t i).bind fun y128=>
 (idx t i).bind fun y130=>
 (idx t i).bind fun y132=>
 (Jv N R y128.Client y130.Name y132.ID).bind fun v134=>
 (idx t i).bind fun y136=>
 (idx t i).bind fun y138=>
 (idx t i).bind fun y140=>
 (Zq N (⟨c⟩:Q3) y136.Client y138.Name y140.ID).bind fun v142=>
 go (wrap .i64 (i+1)) v142.2.L v134.2)
theorem Qlx {t:List Q9} (ht:t.length≤20) (hn:∀ y∈t,y.Name.length≤maxLen) {L:Nat->Nat->Int->List Q1->Reg->Option Bool} {K:Nat->Reg->Option Bool} {Q:Bool->Prop}
  (hL:∀ N n i c R,L N (n+1) i c R=cond (Q2 .lss i (t.length:Int)) (Que t N i c R (L N n)) (K N R)) (hK:TotP (fun N=>K N (Qi1 Q02 (Q9l t))) Q):TotP (fun N=>L N N 0 [] []) Q:=by
 refine Q5w (S:=Int×List Q1×Reg) (L:=fun N n s=>L N n s.1 s.2.1 s.2.2) (fun s=>∃ i:Nat,s.1=(i:Int)∧i≤t.length∧few i ⟨s.2.1⟩∧s.2.2=Qi1 Q02 (Q9l (t.take i))) (fun s=>t.length - s.1.toNat) ?_ (0,[],[]) ⟨0,rfl,Ms _,⟨Li _,fun e h=>by cases h⟩,rfl⟩
 rintro ⟨j,c,R⟩ ⟨i,hj,hi,hf,hR⟩
 simp only at hj hf hR
 subst hj
 have e0:(fun N n=>L N (n+1) (i:Int) c R)=fun N n=>cond (Q2 .lss (i:Int) (t.length:Int)) (Que t N i c R (L N n)) (K N R):=by funext N n;exact hL _ _ _ _ _
 show Stp _ _ _ (fun N n=>L N (n+1) (i:Int) c R);rw [e0,Qs];dsimp only;refine Stp.cond (fun h=>?_) (fun h=>?_)
 ·have hlt:i<t.length:=by have:=Aa h;omega
  have hw:WR R:=by rw [hR];exact Qxu _ _
  have hln:=hn _ (Mn hlt)
  have ew:wrap .i64 ((i:Int)+1)=((i+1:Nat):Int):=by rw [w64 _ (by omega)];omega
  have fold:∀ q,Q9l (t.take (i+1))=Q9l (t.take i) ++ [q]->Qi1 Q02 (Q9l (t.take (i+1)))=Qcc Q02 R q:=fun q hq=>by
   rw [hq,Qi1,List.foldl_append,hR];rfl
  have etr:Q9l (t.take (i+1))=Q9l (t.take i) ++ [(t[i].Client,t[i].Name,t[i].ID)]:=by
   unfold Q9l;rw [Cr,Bd,Lb hlt];rfl
  have hfold:=fold _ etr;refine Stp.idx (Zo hlt) ?_;rw [Zp];refine Stp.cond (fun h0=>?_) (fun h0=>?_)
  ·have h0:=Aa h0;refine Stp.idx (Zo hlt) ?_;refine Stp.idx (Zo hlt) ?_;refine Stp.bind (Qnx hw _ _ hln) (fun v hv=>?_);subst hv;refine Stp.idx (Zo hlt) ?_;refine Stp.idx (Zo hlt) ?_;refine Stp.bind (Qfo (by omega) hf _ _ hln) (fun u hu=>?_);rw [ew];refine Stp.go (L:=fun N n (s:Int×List Q1×Reg)=>L N n s.1 s.2.1 s.2.2) (((i+1:Nat):Int),u.2.L,(Qe8 (Q02 t[i].Name) R t[i].Client t[i].Name).2) ⟨⟨i+1,rfl,hlt,hu,?_⟩,by simp only [Lu];omega⟩;rw [hfold];simp only [Qcc];rw [Af h0]
  have h0:=Ac h0;refine Stp.idx (Zo hlt) ?_;refine Stp.idx (Zo hlt) ?_;refine Stp.idx (Zo hlt) ?_;refine Stp.bind (Qv8 _ _ _ _ hln) (fun v hv=>?_);subst hv;refine Stp.idx (Zo hlt) ?_;refine Stp.idx (Zo hlt) ?_;refine Stp.idx (Zo hlt) ?_;refine Stp.bind (Qca (by omega) hf _ _ _ hln) (fun u hu=>?_);rw [ew];refine Stp.go (L:=fun N n (s:Int×List Q1×Reg)=>L N n s.1 s.2.1 s.2.2) (((i+1:Nat):Int),u.2.L,(Qr1 (Q02 t[i].Name) R t[i].Client t[i].Name t[i].ID).2) ⟨⟨i+1,rfl,hlt,hu,?_⟩,by simp only [Lu];omega⟩;rw [hfold];simp only [Qcc];rw [Ae h0]
 have:i=t.length:=by have:=Ac h;omega
 subst this;refine Stp.fin ?_;rw [hR,Ed];exact hK
theorem Qyx (id:Int):∃ v:List UInt8×Bool,Tot (fun N=>Xd N id) v∧Tot (fun N=>Zf N id) v:=by
 by_cases h1:id<0
 ·exact ⟨([],false),(show TotP _ (· = _) by unfold Xd;rw [Qs];exact TotP.cond (fun _ => .ret rfl) (fun h=>absurd h1 (Ac h))).tot,(show TotP _ (· = _) by unfold Zf;rw [Qs];exact TotP.cond (fun _ => .ret rfl) (fun h=>absurd h1 (Ac h))).tot⟩
 by_cases h2:id>65535
 ·exact ⟨([],false),(show TotP _ (· = _) by unfold Xd;rw [U3];exact TotP.cond (fun _ => .ret rfl) (fun _=>TotP.cond (fun _ => .ret rfl) (fun h=>absurd h2 (Ac h)))).tot,
   (show TotP _ (· = _) by unfold Zf;rw [U3];exact TotP.cond (fun _ => .ret rfl) (fun _=>TotP.cond (fun _ => .ret rfl) (fun h=>absurd h2 (Ac h)))).tot⟩
 obtain ⟨n,rfl⟩:∃ n:Nat,id=(n:Int):=⟨id.toNat,by omega⟩;have e1:wrap .u64 (n:Int)=(n:Int):=Q7n _ (by omega);have hlen:(Q12 n 2).length=2:=Wm 2 n;have hm:=Q3j (Q12 n 2) (by rw [hlen];unfold maxLen;decide);have hr:=Q3a (Q12 n 2) (by rw [hlen];unfold maxLen;decide);have t1:Tot (fun N=>Qt N (n:Int) 2) (Q12 n 2):=⟨11,fun N hN=>Qau N n 2 (by omega) (by decide) (by omega)⟩;have t2:Tot (fun N=>Z3 N (n:Int) 2) (Q12 n 2):=⟨11,fun N hN=>Qlb N n 2 (by omega) (by decide) (by omega)⟩;have t3:Tot (fun N=>Xn N (Q12 n 2)) ((Qod (Q12 n 2):Nat):Int):=⟨11,fun N hN=>Qu4 N _ (by omega) (by omega)⟩;refine ⟨if Q02 (Q12 n 2)=true then (Q12 n 2,true) else ([],false),(show TotP _ (· = _) from ?_).tot,(show TotP _ (· = _) from ?_).tot⟩
 ·unfold Xd;rw [Qs,U3];refine TotP.cond (fun h=>absurd (Aa h) h1) (fun _=>TotP.cond (fun h=>absurd (Aa h) h2) (fun _=>?_));rw [e1];refine TotP.bindE t1 (TotP.bindE hm ?_);refine TotP.cond (fun h => .ret ?_) (fun h => .ret ?_)
  ·rw [Ae (by simpa using h)]
  rw [Af (by simpa using h)]
 unfold Zf V4;rw [Qs,U3];refine TotP.cond (fun h=>absurd (Aa h) h1) (fun _=>TotP.cond (fun h=>absurd (Aa h) h2) (fun _=>?_));rw [e1];refine TotP.bindE t2 ?_;refine TotP.bind (V:=fun v=>v.2=Q02 (Q12 n 2)) ?_ (fun v hv=>?_)
 ·rw [Je];refine TotP.cond (fun h=>absurd (Aa h) (by omega)) (fun _=>?_);refine TotP.bindE hr ?_;refine TotP.cond (fun h => .ret ?_) (fun h=>?_)
  ·simpa using h
  exact TotP.bindE t3 (.ret (by simpa using h.symm))
 rw [hv];refine TotP.cond (fun h => .ret ?_) (fun h => .ret ?_)
 ·rw [Ae (by simpa using h)]
 rw [Af (by simpa using h)]
def Z1f:Xq:=⟨0,false,false,0,0,[],[],false,0,[],false,[],false,[],false,(⟨[],[],0,false,[]⟩:Q77),false,0,[],[],[]⟩
def Z5o:Yw:=⟨0,(⟨false,0,false,false,false,0⟩:Zh),0,0,0,false,0,0,0,[],[]⟩
def Z15:Jh:=⟨0,0,[],[],0,false,false,0,[],0,[],0,Z1f,Z5o,⟨0,0,[],[]⟩⟩
def Z75 (d:Yt):Jh:=⟨3,2,[],[],0,false,false,0,[],0,d.Hops,0,Z1f,d.Msg,⟨0,0,[],[]⟩⟩
def Quh (d:Yt) (s:List UInt8):Jh:=⟨3,1,s,d.Msg.Data,d.Msg.Flags.QoS,d.Msg.Flags.Retain,d.Msg.Flags.Dup,d.Msg.MsgID,[],d.Msg.Flags.Type',d.Hops,0,Z1f,Z5o,⟨0,0,[],[]⟩⟩
def toG (d:Yt) (c:Int) (nm x:List UInt8×Bool) (e:Int):Jh×Int:=
 if c≠0 then (Z15,c) else if d.Msg.Type'≠12 then (Z75 d,0) else
 if d.Msg.Flags.Type'=2 then (if nm.2=false then (Z15,11) else (Quh d nm.1,0)) else
 if e≠0 then (Z15,11) else if x.2=(decide (d.Msg.Flags.Type'=1)) then (Quh d x.1,0) else (Z15,11)
theorem Qwc (l:List Q0a) (h:l.length≤30) (N:Nat):Q3l N l=some l:=by
 unfold Q3l
 cases l with
 | nil=>rfl
 | cons a l=>
  have e:Nat.beq (a::l).length 0=false:=rfl
  have e2:Nat.ble ((0+(a::l).length+4096) * 24) 17592186044416=true:=by rw [Ls];omega
  rw [e,e2];rfl
theorem Z7n {d:Yt} (h:Qzp d):∃ c nm,Tot (fun N=>Vn N d ⟨1048576,32⟩) c∧Tot (fun N=>Zf N d.Msg.TopicID) nm ∧
  ∀ (R:Reg) (cl:List UInt8),Tot (fun N=>Vw N R cl d) (toG d c nm ((Q4p R cl d.Msg.TopicID).1,Q55 R cl d.Msg.TopicID) (Q4p R cl d.Msg.TopicID).2,R):=by
 obtain ⟨c,_,hc⟩:=Qpy h ⟨1048576,32⟩;obtain ⟨nm,n1,n2⟩:=Qyx d.Msg.TopicID;refine ⟨c,nm,hc,n2,fun R cl=>(show TotP _ (· = _) from ?_).tot⟩;unfold Vw;refine TotP.bindE (v:=⟨1048576,32⟩) (.of fun _=>rfl) ?_;refine TotP.bindE hc ?_;simp only [Je,Zp];unfold toG;refine TotP.cond (fun g=>?_) (fun g=>?_)
 ·rw [Af (Aa g)];exact .ret rfl
 rw [Ae (Ac g)];refine TotP.bindE (v:=d.Hops) (.of fun N=>Qwc _ h.hops N) ?_;refine TotP.cond (fun g=>?_) (fun g=>?_)
 ·rw [Af (Aa g)];exact .ret rfl
 rw [Ae (Ac g)];refine TotP.cond (fun g=>?_) (fun g=>?_)
 ·rw [Af (Aa g)];refine TotP.bindE (f:=fun N=>Jg N ⟨⟩ d.Msg.TopicID) (v:=nm) (Tot.bind n1 (.ret _)) ?_;refine TotP.cond (fun g=>?_) (fun g=>?_)
  ·rw [Af (by simpa using g)];exact .ret rfl
  rw [Ae (by simpa using g)];exact .ret rfl
 rw [Ae (Ac g)];refine TotP.cond (fun g=>?_) (fun g=>?_)
 ·rw [g];refine TotP.bindE (v:=(Q4p R cl d.Msg.TopicID,R)) (.of fun _=>rfl) ?_;refine TotP.cond (fun g=>?_) (fun g=>?_)
  ·rw [Af (Aa g)];exact .ret rfl
  rw [Ae (Ac g)];refine TotP.bindE (v:=(Q55 R cl d.Msg.TopicID,R)) (.of fun _=>rfl) ?_;refine TotP.cond (fun g=>?_) (fun g=>?_)
  ·rw [Ae (by simpa using g)];exact .ret rfl
  rw [Af (by simpa using g)];exact .ret rfl
 rw [g];refine TotP.bindE (v:=(Q4p R cl d.Msg.TopicID,R)) (.of fun _=>rfl) ?_;refine TotP.cond (fun g=>?_) (fun g=>?_)
 ·rw [Af (Aa g)];exact .ret rfl
 rw [Ae (Ac g)];refine TotP.bindE (v:=(Q55 R cl d.Msg.TopicID,R)) (.of fun _=>rfl) ?_;refine TotP.cond (fun g=>?_) (fun g=>?_)
 ·rw [Ae (by simpa using g)];exact .ret rfl
 rw [Af (by simpa using g)];exact .ret rfl
end
end Go.Av
namespace Go.Av
noncomputable section
theorem Qwy (t:List Q9) (ht:t.length≤maxLen):TotP (fun N=>Ul N t) (fun v=>v=true->t.length≤20∧∀ y∈t,y.Name.length≤200):=by
 have hm:=Qae;refine Q4a (L:=fun N n s=>Ys N t n s) t.length (fun i=>∀ j (h:j<t.length),j<i->(t[j]).Name.length≤200) (fun i hi hj=>?_) (fun hj=>?_) (fun j _ hj=>by omega)
 ·show Stp _ _ _ (fun N n=>cond (Q2 .lss (i:Int) ((Qi Q9.cells t).length:Int)) _ _);rw [Qy,Qs];refine Stp.cond (fun _=>?_) (fun h=>by have:=Ac h;omega);refine Stp.idx (Zo hi) ?_;refine Stp.cond (fun _=>Stp.ret (fun h=>nomatch h)) (fun _=>?_);refine Stp.idx (Zo hi) ?_;rw [U3];refine Stp.cond (fun _=>Stp.ret (fun h=>nomatch h)) (fun h1=>?_);have h1:=Ac h1;rw [w64 _ (by omega)];refine Stp.go (L:=fun N n s=>Ys N t n s) _ ⟨by omega,fun j hj' hji=>?_⟩
  by_cases e:j=i
  ·subst e;omega
  exact hj j hj' (by omega)
 show Stp _ _ _ (fun N n=>cond (Q2 .lss (t.length:Int) ((Qi Q9.cells t).length:Int)) _ _);rw [Qy,Qs];refine Stp.cond (fun h=>by have:=Aa h;omega) (fun _=>Stp.ret (fun h=>?_));rw [Vz] at h;have h:=Aa h;refine ⟨by omega,fun y hy=>?_⟩;obtain ⟨j,hj',rfl⟩:=Dk hy;exact hj j hj' hj'
section
variable (t:List Q9) (client other:List UInt8) (d:Yt) (ht:t.length≤20) (hn:∀ y∈t,y.Name.length≤200) (hd:Qzp d)
include ht hn hd
end
end
end Go.Av
namespace Go.Av
noncomputable section
open Tp
theorem Qcu (R:Reg) (c:List UInt8) (id:Int):Q4p R c id=match Q5u R c with | none=>([],11) | some C=>match Js id 0 C.all with | none=>([],11) | some (_,v)=>(v.1,0):=by
 unfold Q4p Q5u
 cases Yx c 0 R with
 | none=>rfl
 | some q=>rfl
theorem Qk1 (R:Reg) (c n:List UInt8):rID R c n=match Q5u R c with | none=>(0,11) | some C=>match Gk n 0 C.ids with | none=>(0,11) | some (_,id)=>(id,0):=by
 unfold rID Q5u
 cases Yx c 0 R with
 | none=>rfl
 | some q=>rfl
theorem Qsl {l:List RTp} (h:(l.map (·.1)).Nodup) {i j:Nat} {a b:RTp} (ha:l[i]? = some a) (hb:l[j]? = some b) (e:a.1=b.1):a=b:=by
 obtain ⟨hi,rfl⟩:=La.1 ha;obtain ⟨hj,rfl⟩:=La.1 hb
 have h2:(l.map (·.1))[i]'(by simpa using hi)=(l.map (·.1))[j]'(by simpa using hj):=by simpa using e
 have:=(Ee h).1 h2;subst this;rfl
theorem Qwn {m:Nat} {R:Reg} (h:RI m R) {c n:List UInt8} {id:Int} (e:rID R c n=(id,0)):Q4p R c id=(n,0):=by
 rw [Qk1] at e;rw [Qcu]
 cases hc:Q5u R c with
 | none=>rw [hc] at e;cases e
 | some C=>
  rw [hc] at e;simp only [] at e ⊢;have hC:=h.get hc
  rcases Q1t n C.ids 0 with ⟨e1,hn⟩ | ⟨i,v,e1,_,hv⟩
  ·rw [e1] at e;cases e
  rw [e1] at e;cases e;rw [No,hC.ids,Lm] at hv
  cases hq:C.all[i]? with
  | none=>rw [hq] at hv;cases hv
  | some q=>
   rw [hq] at hv;obtain ⟨qi,qn,qb⟩:=q;simp only [Mr,Ld,Lh] at hv;obtain ⟨rfl,rfl⟩:=hv
   rcases Q0y qi C.all 0 with ⟨_,hn⟩ | ⟨j,w,e2,_,hw⟩
   ·exact absurd (Ml.2 ⟨_,Mk hq,rfl⟩) hn
   rw [e2];rw [No] at hw;have:=Qsl hC.nd hq hw rfl;cases this;rfl
theorem Qf4 {R:Reg} {c n:List UInt8} (e:(rID R c n).2≠0):∀ C,Q5u R c=some C->n ∉ C.ids.map (·.1):=by
 intro C hc;rw [Qk1,hc] at e;simp only [] at e
 rcases Q1t n C.ids 0 with ⟨_,hn⟩ | ⟨i,v,e1,_,_⟩
 ·exact hn
 rw [e1] at e;exact absurd rfl e
theorem Qqh {m:Nat} {R:Reg} (h:RI m R) {c n:List UInt8} {k:Int} (hn:∀ C,Q5u R c=some C->n ∉ C.ids.map (·.1)) (hk:k ∉ (Q8n R c).map (·.1)) (hlow:∀ j:Int,1≤j->j<k->j∈(Q8n R c).map (·.1)) (h1:1≤k∧k≤65534) :
  (Qe8 true R c n).1.2.2=0∧∃ C2:RCl,Q5u (Qe8 true R c n).2 c=some C2∧C2.all=Q8n R c ++ [(k,n,false)]:=by
 rw [Qsy,Af ⟨rfl,rfl⟩];unfold Qe8;rw [Af rfl];rw [Q5r] at hk hlow ⊢
 cases hc:Q5u R c with
 | none=>
  rw [hc] at hk hlow
  have:k=1:=by
   by_cases e:k=1
   ·exact e
   have:=hlow 1 (Cu _) (by omega);simp at this
  subst this;exact ⟨rfl,_,rfl,rfl⟩
 | some C=>
  rw [hc] at hk hlow;simp only [] at hk hlow ⊢;have hC:=h.get hc;have hw:=hC.wc;unfold Qdu;simp only []
  rcases Q1t n C.ids 0 with ⟨e,_⟩ | ⟨i,v,e,_,hv⟩
  rotate_left
  ·rw [No] at hv;exact absurd (Ml.2 ⟨_,Mk hv,rfl⟩) (hn C hc)
  rw [e]
  obtain ⟨id,nx,hl,_,_,_⟩:=Q2z C.all 65536 C.next hw.2.1 hw.2.2 (by have:=hw.2.1;omega)
  simp only [hl]
  have hkn:C.next≤k:=by
   by_cases g:C.next≤k
   ·exact g
   exact absurd (hC.low k h1.1 (by omega)) hk
  by_cases h0:id=0
  ·subst h0;obtain ⟨g1,_,g2⟩:=Q6f C.all _ _ _ hw.2.1 hw.2.2 hl;exact absurd (g2 k hkn (by omega)) hk
  obtain ⟨g1,g2,_,g4,g5⟩:=Q6e C.all _ _ _ _ hl h0
  have:id=k:=by
   rcases Int.lt_trichotomy id k with g | g | g
   ·exact absurd (hlow id (by have:=hw.2.1;omega) g) g4
   ·exact g
   exact absurd (g5 k hkn g) hk
  subst this;rw [Ae h0];exact ⟨rfl,_,rfl,rfl⟩
theorem Qnp {m:Nat} {R:Reg} (h:RI m R) (hm:m≤1000) {c n:List UInt8} {k:Int} {R':Reg} (hR:R'=(Qe8 true R c n).2) (hk:k ∉ (Q8n R c).map (·.1)) {C2:RCl} (h2:Q5u R' c=some C2) (ha:C2.all=Q8n R c ++ [(k,n,false)]) :
  okAll R' c=true∧Q4p R' c k=(n,0)∧(rTopics R' c).length=(rTopics R c).length+1:=by
 have hri:RI (m+1) R':=by
  rw [hR];unfold Qe8;rw [Af rfl];exact (h.mono (Bg m)).set _ (Qu2 (fun D hD=>h.get hD) _)
 refine ⟨hri.okAll (by omega) c,?_,?_⟩
 ·rw [Qcu,h2];simp only []
  rcases Q0y k C2.all 0 with ⟨_,hn⟩ | ⟨j,w,e2,_,hw⟩
  ·exfalso;rw [ha] at hn;simp at hn
  rw [e2];rw [No,ha] at hw
  by_cases hj:j<(Q8n R c).length
  ·rw [Lk hj] at hw;exact absurd (Ml.2 ⟨_,Mk hw,rfl⟩) hk
  rw [Lo (by omega)] at hw
  have:j - (Q8n R c).length=0:=by
   by_cases e:j - (Q8n R c).length=0
   ·exact e
   rw [Mj (by simp;omega)] at hw;cases hw
  rw [this] at hw;simp at hw;rw [← hw]
 unfold rTopics;rw [(Xr _).length_eq,(Xr _).length_eq,Q5r R',h2];simp [ha]
section
variable {m:Nat} {R:Reg} (h:RI m R) (hm:m≤1000) {c:List UInt8} {msg:Yw} (hnm:Q02 msg.Name=true) (hln:msg.Name.length≤70000) (hid:1≤msg.TopicID∧msg.TopicID≤65534)
include h hm hnm hln hid
def Z27 (R:Reg) (c:List UInt8) (msg:Yw) (r:Int×Reg):Prop:=r=(2,R)∨(r.1=0∧okAll r.2 c=true∧Q4p r.2 c msg.TopicID=(msg.Name,0)∧(rTopics r.2 c).length≤(rTopics R c).length+1)
omit h hm hnm hln hid in
theorem Qeg {l:List RTp} (hn:(l.map (·.1)).Nodup):(Q49 l).Pairwise (fun a b=>a.1<b.1):=by
 have h1:=Q41 l;have h2:((Q49 l).map (·.1)).Nodup:=(((Xr l).map (·.1)).nodup_iff).2 hn
 have h3:(Q49 l).Pairwise (fun a b=>a.1≠b.1):=by
  have:=List.pairwise_map.1 h2;exact this
 exact (h1.and h3).imp fun ⟨a,b⟩=>by omega
theorem Qmh (T:List RTp) (hT:T=rTopics R c) (hnone:(rID R c msg.Name).2≠0):TotP (fun N=>W9 N c msg (T.map Qd6,R) N 1 0) (Z27 R c msg):=by
 have hmax:(70000:Nat)≤maxLen:=by unfold maxLen;decide
 have hnd:((Q8n R c).map (·.1)).Nodup:=by
  have:=h.okAll (by omega) c;unfold Tp.okAll at this;exact (Aa this).2
 have hl3:T.length≤1000:=by
  rw [hT];unfold rTopics;rw [(Xr _).length_eq,Q5r]
  cases hc:Q5u R c with
  | none=>simp
  | some C=>exact Mq (h.get hc).len hm
 have hst:T.Pairwise (fun a b=>a.1<b.1):=by rw [hT];exact Qeg hnd
 have hmem:∀ k:Int,k∈(Q8n R c).map (·.1)↔k∈T.map (·.1):=fun k=>by
  rw [hT];exact (((Xr (Q8n R c)).map (·.1)).mem_iff).symm
 have hpos:∀ t∈T,1≤t.1:=fun t ht=>by
  have:t∈Q8n R c:=by rw [hT] at ht;exact (Xr _).mem_iff.1 ht
  rw [Q5r] at this
  cases hc:Q5u R c with
  | none=>rw [hc] at this;cases this
  | some C=>rw [hc] at this;exact ((h.get hc).rng t this).1
 have fin:∀ (i:Nat),i≤T.length->(∀ j t,j<i->T[j]? = some t->t.1=(j:Int)+1)->(∀ t,T[i]? = some t->t.1≠(i:Int)+1) ->
   TotP (fun N=>cond (Q2 .neq msg.TopicID ((i+1:Nat):Int)) (some (2,R)) ((Vp N R c msg.Name).bind fun v24=>some (v24.1.2.2,v24.2))) (Z27 R c msg):=by
  intro i hi hlow hne;rw [Je];refine TotP.cond (fun _ => .ret (.inl rfl)) (fun g=>?_);have g:=Ac g
  have hk:msg.TopicID=((i+1:Nat):Int):=by omega
  refine TotP.bindE (Qnx (fun q hq=>(h.cl q hq).wc) c msg.Name (by omega)).tot ?_;rw [hnm]
  have hki:msg.TopicID ∉ (Q8n R c).map (·.1):=by
   rw [hmem];intro hx;obtain ⟨t,ht,e⟩:=Ml.1 hx;obtain ⟨j,hj⟩:=Dd ht;have hjl:=(La.1 hj).1
   rcases Nat.lt_trichotomy j i with g1 | g1 | g1
   ·have:=hlow j t g1 hj;omega
   ·subst g1;exact hne t hj (by omega)
   have hil:i<T.length:=by omega
   have h1:=hst;rw [Dx] at h1;have h2:=h1 i j hil hjl g1;have ej:T[j]=t:=(La.1 hj).2;rw [ej] at h2;have h3:=hne T[i] (Lb hil)
   by_cases hz:i=0
   ·subst hz;have:=hpos T[0] (Mn hil);omega
   have h4:=h1 (i - 1) i (by omega) hil (by omega);have h5:=hlow (i - 1) T[i - 1] (by omega) (Lb (by omega));omega
  have hlo:∀ j:Int,1≤j->j<msg.TopicID->j∈(Q8n R c).map (·.1):=fun j a b=>by
   rw [hmem]
   have hj:(j - 1).toNat<T.length:=by omega
   have:=hlow (j - 1).toNat T[(j - 1).toNat] (by omega) (Lb hj);exact Ml.2 ⟨T[(j - 1).toNat],Mn hj,by omega⟩
  obtain ⟨q1,C2,q2,q3⟩:=Qqh h (Qf4 hnone) hki hlo hid;obtain ⟨p1,p2,p3⟩:=Qnp h hm rfl hki q2 q3;exact .ret (.inr ⟨q1,p1,p2,by rw [p3];exact Li _⟩)
 refine Q5w (S:=Int×Int) (L:=fun N n s=>W9 N c msg (T.map Qd6,R) n s.1 s.2) (fun s=>∃ i:Nat,s=(((i+1:Nat):Int),(i:Int))∧i≤T.length∧∀ j t,j<i->T[j]? = some t->t.1=(j:Int)+1) (fun s=>T.length - s.2.toNat) ?_ (1,0) ⟨0,rfl,Ms _,fun j t hj=>by omega⟩
 rintro s ⟨i,rfl,hi,hlow⟩
 show Stp _ _ _ (fun N n=>cond (Q2 .lss (i:Int) ((Qi Qh.cells (T.map Qd6)).length:Int)) _ _);rw [Qy,Lp,Qs];refine Stp.cond (fun g=>?_) (fun g=>?_)
 ·have hlt:i<T.length:=by have:=Aa g;omega
  have hix:idx (T.map Qd6) (i:Int)=some (Qd6 T[i]):=by
   show (T.map Qd6)[i]? = _;rw [Lm,Lb hlt];rfl
  refine Stp.idx hix ?_;rw [Je];refine Stp.cond (fun g2=>Stp.fin ?_) (fun g2=>?_)
  ·refine fin i hi hlow fun t ht=>?_;rw [Lb hlt] at ht;cases ht;have:=Aa g2;show (Qd6 T[i]).ID≠_;omega
  have g2:=Ac g2;rw [w64 _ (by omega),w64 _ (by omega)];refine Stp.go (L:=fun N n (s:Int×Int)=>W9 N c msg (T.map Qd6,R) n s.1 s.2) (((i+1:Nat):Int)+1,(i:Int)+1) ⟨⟨i+1,rfl,hlt,fun j t hj ht=>?_⟩,by simp only [];omega⟩
  by_cases e:j=i
  ·subst e;rw [Lb hlt] at ht;cases ht;show (Qd6 T[j]).ID=_;omega
  exact hlow j t (by omega) ht
 have e:i=T.length:=by have:=Ac g;omega
 exact Stp.fin (fin i hi hlow fun t ht=>by rw [e,Mj (Li _)] at ht;cases ht)
theorem Qqs:TotP (fun N=>Un N R c msg) (Z27 R c msg):=by
 have hok:=h.okAll (by omega) c;unfold Un;refine TotP.bindE (v:=(rID R c msg.Name,R)) (.of fun _=>rfl) ?_;rw [Zp];refine TotP.cond (fun g=>?_) (fun g=>?_)
 ·have g:=Aa g;rw [Je];refine TotP.cond (fun _ => .ret (.inl rfl)) (fun g2 => .ret (.inr ⟨rfl,hok,?_,Bg _⟩));have g2:=Ac g2;refine Qwn h ?_;show rID R c msg.Name=_;refine Prod.ext ?_ g;show (rID R c msg.Name).1=msg.TopicID;exact Dt.1 g2
 refine TotP.bindE (v:=((rTopics R c).map Qd6,R)) (.of fun N=>?_) ?_
 ·show cond (okAll R c) _ _=_;rw [hok];rfl
 exact Qmh h hm hnm hln hid _ rfl (Ac g)
end
theorem Qgl {msg:Yw} (h:snE msg=0) (h10:msg.Type'=10):Q02 msg.Name=true∧1≤msg.TopicID∧msg.TopicID≤65534:=by
 unfold snE at h
 by_cases hk:msg.Type'∈Q6q
 rotate_left
 ·rw [Ae hk] at h;exact absurd h (by decide)
 rw [Af hk] at h
 by_cases hmy:Qji msg.Type' msg.Flags=true
 rotate_left
 ·rw [Ae hmy] at h;exact absurd h (by decide)
 rw [Af hmy] at h;split at h
 ·exact absurd h (by decide)
 unfold tlE at h
 by_cases hr:Qkw msg=true
 rotate_left
 ·rw [Ae hr] at h;exact absurd h (by decide)
 rw [Af hr] at h
 by_cases h1:Qn4 msg=0
 rotate_left
 ·rw [Ae h1] at h;exact absurd h h1
 rw [Af h1] at h
 by_cases h2:Qqz msg=0
 rotate_left
 ·rw [Ae h2] at h;exact absurd h h2
 refine ⟨?_,?_⟩
 ·unfold Qqz at h2;rw [h10] at h2
  by_cases hn:Q02 msg.Name=true
  ·exact hn
  simp [hn] at h2
 unfold Qji at hmy;rw [h10] at hmy
 have ht:msg.Flags.Type'=0:=by
  simp only [Lc,Nl,Ag] at hmy;have:=hmy.2.2.2.2.2.2.1
  rcases this with e | e
  ·exact absurd e (by decide)
  exact e
 unfold Qn4 tpE at h1;rw [h10,ht] at h1;simp at h1;omega
def Qci (T id:Int) (data:List UInt8):Yw:=⟨12,⟨false,0,false,false,false,T⟩,0,0,0,false,id,0,0,[],data⟩
theorem Qnh {T id:Int} {data:List UInt8} (hT:T=0∨T=1) (hid:1≤id∧id≤65534) (hd:data.length≤400):dgE ⟨[],Qci T id data⟩ ⟨1048576,32⟩=0:=by
 have hmay:Qji (Qci T id data).Type' (Qci T id data).Flags=true:=by rcases hT with rfl | rfl<;>rfl
 have hp:Vd (Qci T id data) = [1,7,8,10]:=rfl
 have hnum:Qkw (Qci T id data)=true:=by
  unfold Qkw;rw [hp]
  have e1:Q80 id 65535 (decide ((7:Int)∈([1,7,8,10]:List Int)))=true:=by unfold Q80;simp;omega
  show (_&&(_&&(_&&(_&&(_&&(Q80 id 65535 _&&_))))))=true;rw [e1];rfl
 have htop:Qn4 (Qci T id data)=0:=by
  have:∀ m:Yw,m.Type'=12->m.Flags.Type'≠2->1≤m.TopicID->m.TopicID≤65534->Qn4 m=0:=fun m a b c d=>by
   unfold Qn4 tpE;rw [Af (.inl a),Ae b,Ae (by omega),Ae (by omega)]
  exact this _ rfl (by show T≠2;omega) hid.1 hid.2
 have hnam:Qqz (Qci T id data)=0:=rfl
 have hrst:(Qch (Qci T id data)).length≤410:=by
  unfold Qch;rw [hp];show (Q64 _ 1++(Q64 _ 7++(Q64 _ 8++(data ++ [])))).length≤410;have a1:(Q64 (Qci T id data) 1).length=1:=Wm 1 _;have a2:(Q64 (Qci T id data) 7).length=2:=Wm 2 _;have a3:(Q64 (Qci T id data) 8).length=2:=Wm 2 _;simp only [Ln,a1,a2,a3,Mb];omega
 have hhd:(hdX 12 ((Qch (Qci T id data)).length:Int)).2=0:=by
  unfold hdX;rw [Af (by decide),Ae (by omega)]
 have hs:snE (Qci T id data)=0:=by
  unfold snE;rw [Af (show (Qci T id data).Type'∈Q6q by show (12:Int)∈Q6q;decide),Af hmay,Ae (by intro h;exact absurd (show decide ((12:Int)=7∨(12:Int)=26)=true from h.1) (by decide))];unfold tlE;rw [Af hnum,Af htop,Af hnam];exact hhd
 unfold dgE;rw [Af (by rfl),Ae (by show ¬ (0>4);decide),Af (by rfl),Af hs,Ae ?_];have hl:(Qhx ([]:List Q0a)).length=0:=rfl;show ¬ (((Qhx ([]:List Q0a)).length+(snB (Qci T id data)).length:Nat):Int)>1048576
 have h9:(snB (Qci T id data)).length≤420:=by
  unfold snB hdS;rw [Ln];split
  ·simp only [Ln,Wm];omega
  simp only [Ln,Wm];omega
 rw [hl];omega
theorem Qu0 {R:Reg} {c n data:List UInt8} {T id:Int} (hn:Q4p R c id=(n,0)) (hT:T=0∨T=1) (hx:Q55 R c id=decide (T=1)) (hid:1≤id∧id≤65534) (hd:data.length≤400) :
  TotP (fun N=>Vw N R c ⟨[],Qci T id data⟩) (fun r=>r.1.2=0∧r.1.1.Topic=n∧r.1.1.Payload=data):=by
 have hok:Qzp ⟨[],Qci T id data⟩:=⟨Ms _,fun x hx=>(by cases hx),⟨Ms _,by show data.length≤70000;omega⟩⟩;obtain ⟨c0,nm,h1,_,h2⟩:=Z7n hok;have hc:=Qv6 (d:=⟨[],Qci T id data⟩) (by show (0:Nat)≤70000;omega) (by show data.length≤70000;omega) ⟨1048576,32⟩;rw [Qnh hT hid hd] at hc
 have e:c0=0:=by
  obtain ⟨a,ha⟩:=h1;obtain ⟨b,hb⟩:=hc;have g1:=ha (max a b) (Nat.le_max_left _ _);have g2:=hb (max a b) (Nat.le_max_right _ _);rw [g1] at g2;exact Am g2
 subst e;refine TotP.of ?_ (h2 R c);unfold toG;simp only [];rw [Ae (by decide),Ae (by show ¬ ((12:Int)≠12);decide),Ae (by show ¬ (T=2);omega)];have e2:(Q4p R c (Qci T id data).TopicID)=(n,0):=hn;have e3:Q55 R c (Qci T id data).TopicID=decide (T=1):=hx;rw [e2,e3,Ae (fun h=>h rfl),Af (by rfl)];exact ⟨rfl,rfl,rfl⟩
theorem Qfg (l:List Qh) (hl:l.length≤1000000):TotP (fun N=>Qg N l l) (· = true):=by
 unfold Qg;rw [Je];refine TotP.cond (fun g=>absurd rfl (Aa g)) (fun _=>?_);refine Q4a (L:=fun N k s=>Zk N l l k s) l.length (fun _=>True) (fun i hi _=>?_) (fun _=>?_) trivial
 ·show Stp _ _ _ (fun N k=>cond (Q2 .lss (i:Int) ((Qi Qh.cells l).length:Int)) _ _);rw [Qy,Qs];refine Stp.cond (fun _=>?_) (fun h=>absurd (Ac h) (by omega));refine Stp.idx (Zo hi) ?_;refine Stp.idx (Zo hi) ?_;refine Stp.cond (fun h=>by simp at h) (fun _=>?_);rw [w64 _ (by omega)];exact Stp.go (L:=fun N k s=>Zk N l l k s) _ ⟨by omega,trivial⟩
 show Stp _ _ _ (fun N k=>cond (Q2 .lss ((l.length:Nat):Int) ((Qi Qh.cells l).length:Int)) _ _);rw [Qy,Qs];exact Stp.cond (fun h=>absurd (Aa h) (by omega)) (fun _=>Stp.ret rfl)
theorem Qrv (v w:List Qh×Reg) (hw:v.1.length≤w.1.length) (hl:w.1.length≤1000000) (hf:∀ t∈v.1,t.Fixed=true):TotP (fun N=>Qp N w v N 0) (· = true):=by
 refine Q4a (L:=fun N k s=>Qp N w v k s) v.1.length (fun _=>True) (fun i hi _=>?_) (fun _=>?_) trivial
 ·show Stp _ _ _ (fun N k=>cond (Q2 .lss (i:Int) ((Qi Qh.cells v.1).length:Int)) _ _);rw [Qy,Qs];refine Stp.cond (fun _=>?_) (fun h=>absurd (Ac h) (by omega));refine Stp.idx (Zo hi) ?_;refine Stp.cond (fun h=>by rw [hf _ (Mn hi)] at h;cases h) (fun _=>?_);rw [w64 _ (by omega)];exact Stp.go (L:=fun N k s=>Qp N w v k s) _ ⟨by omega,trivial⟩
 show Stp _ _ _ (fun N k=>cond (Q2 .lss ((v.1.length:Nat):Int) ((Qi Qh.cells v.1).length:Int)) _ _);rw [Qy,Qs];refine Stp.cond (fun h=>absurd (Aa h) (by omega)) (fun _=>Stp.ret ?_);rw [Qy,Vz];exact Ad (by omega)
end
end Go.Av
namespace Go.Av
noncomputable section
open Tp
def Qqu (client:List UInt8) (m:Yw) (data:List UInt8) (N:Nat) (R:Reg):Option Bool:=
  ((Uj N R client).bind fun v144=>
  (Jl N v144.2 client m).bind fun v146=>
  (Uj N v146.2 client).bind fun v148=>
  (X9 N m).bind fun v150=>
  cond (Q2 .neq v146.1 0)
  ((Qg N v148.1 v144.1).bind fun v153=>
  cond v153
  (cond (Q2 .eql v150 0)
  (cond (Q2 .neq v150 0)
  (some true)
  (cond (Q2 .eql v146.1 2)
  (some (Q2 .eql m.Type' 10))
  (some false)))
  (cond (Q2 .eql v146.1 v150)
  (cond (Q2 .neq v150 0)
  (some true)
  (cond (Q2 .eql v146.1 2)
  (some (Q2 .eql m.Type' 10))
  (some false)))
  (some false)))
  (some false))
  (cond (Q2 .eql m.Type' 10)
  ((Q1r N v148.2 client m.TopicID).bind fun v163=>
  cond (Q2 .neq v163.1.2 0)
  (some false)
  (cond (Jz .neq v163.1.1 m.Name)
  (some false)
  (cond (Q2 .gtr ((Qi Qh.cells v148.1).length:Int) (wrap .i64 (((Qi Qh.cells v144.1).length:Int)+1)))
  (some false)
  ((Q0q N v163.2 client m.TopicID).bind fun v168=>
  cond v168.1
  ((Vw N v168.2 client (⟨[],(⟨12,(⟨false,0,false,false,false,1⟩:Zh),0,0,0,false,m.TopicID,0,0,[],data⟩:Yw)⟩:Yt)).bind fun v171=>
  cond (Q2 .eql v150 0)
  (cond (Q2 .eql v171.1.2 0)
  (cond (Jz .eql v171.1.1.Topic m.Name)
  (some (Jz .eql v171.1.1.Payload data))
  (some false))
  (some false))
  (some false))
  ((Vw N v168.2 client (⟨[],(⟨12,(⟨false,0,false,false,false,0⟩:Zh),0,0,0,false,m.TopicID,0,0,[],data⟩:Yw)⟩:Yt)).bind fun v176=>
  cond (Q2 .eql v150 0)
  (cond (Q2 .eql v176.1.2 0)
  (cond (Jz .eql v176.1.1.Topic m.Name)
  (some (Jz .eql v176.1.1.Payload data))
  (some false))
  (some false))
  (some false))))))
  (cond (Q2 .eql m.Type' 4)
  (cond m.Flags.Clean
  (Qp N v144 v148 N 0)
  ((Qg N v148.1 v144.1).bind fun v197=>
  some v197))
  ((Qg N v148.1 v144.1).bind fun v199=>
  some v199))))
section
variable {mm:Nat} {R:Reg} (h:RI mm R) (hm:mm≤20) (client:List UInt8) (m:Yw) (data:List UInt8) (hn:m.Name.length≤70000) (hd:m.Data.length≤70000) (hdat:data.length≤400)
theorem Qcs {R':Reg} {client:List UInt8} (hok:okAll R' client=true):Tot (fun N=>Uj N R' client) ((rTopics R' client).map Qd6,R') := .of fun N=>by
 show cond (okAll R' client) _ _=_;rw [hok];rfl
structure LrnQ (R:Reg) (client:List UInt8) (m:Yw) (q:Int×Reg):Prop where
 ok:okAll q.2 client=true
 bad:q.1≠0->q.2=R∧(snE m=0∨q.1=snE m)∧(snE m≠0∨q.1=2∧m.Type'=10)
 good:q.1=0->snE m=0
 reg:q.1=0->m.Type'=10->Q4p q.2 client m.TopicID=(m.Name,0)∧(rTopics q.2 client).length≤(rTopics R client).length+1
 clr:q.1=0->m.Type'≠10->m.Type'=4->m.Flags.Clean=true->(rTopics q.2 client).length≤(rTopics R client).length∧∀ t∈rTopics q.2 client,t.2.2=true
 oth:q.1=0->m.Type'≠10->¬ (m.Type'=4∧m.Flags.Clean=true)->q.2=R
include hn hd hdat in
theorem Qlg (hlen:(rTopics R client).length≤20) {q:Int×Reg} (hq:LrnQ R client m q):TotP (fun N=>(Uj N q.2 client).bind fun v148=>
  (X9 N m).bind fun v150=>
  cond (Q2 .neq q.1 0)
  ((Qg N v148.1 ((rTopics R client).map Qd6,R).1).bind fun v153=>
  cond v153
  (cond (Q2 .eql v150 0)
  (cond (Q2 .neq v150 0)
  (some true)
  (cond (Q2 .eql q.1 2)
  (some (Q2 .eql m.Type' 10))
  (some false)))
  (cond (Q2 .eql q.1 v150)
  (cond (Q2 .neq v150 0)
  (some true)
  (cond (Q2 .eql q.1 2)
  (some (Q2 .eql m.Type' 10))
  (some false)))
  (some false)))
  (some false))
  (cond (Q2 .eql m.Type' 10)
  ((Q1r N v148.2 client m.TopicID).bind fun v163=>
  cond (Q2 .neq v163.1.2 0)
  (some false)
  (cond (Jz .neq v163.1.1 m.Name)
  (some false)
  (cond (Q2 .gtr ((Qi Qh.cells v148.1).length:Int) (wrap .i64 (((Qi Qh.cells ((rTopics R client).map Qd6,R).1).length:Int)+1)))
  (some false)
  ((Q0q N v163.2 client m.TopicID).bind fun v168=>
  cond v168.1
  ((Vw N v168.2 client (⟨[],(⟨12,(⟨false,0,false,false,false,1⟩:Zh),0,0,0,false,m.TopicID,0,0,[],data⟩:Yw)⟩:Yt)).bind fun v171=>
  cond (Q2 .eql v150 0)
  (cond (Q2 .eql v171.1.2 0)
  (cond (Jz .eql v171.1.1.Topic m.Name)
  (some (Jz .eql v171.1.1.Payload data))
  (some false))
  (some false))
  (some false))
  ((Vw N v168.2 client (⟨[],(⟨12,(⟨false,0,false,false,false,0⟩:Zh),0,0,0,false,m.TopicID,0,0,[],data⟩:Yw)⟩:Yt)).bind fun v176=>
  cond (Q2 .eql v150 0)
  (cond (Q2 .eql v176.1.2 0)
  (cond (Jz .eql v176.1.1.Topic m.Name)
  (some (Jz .eql v176.1.1.Payload data))
  (some false))
  (some false))
  (some false))))))
  (cond (Q2 .eql m.Type' 4)
  (cond m.Flags.Clean
  (Qp N ((rTopics R client).map Qd6,R) v148 N 0)
  ((Qg N v148.1 ((rTopics R client).map Qd6,R).1).bind fun v197=>
  some v197))
  ((Qg N v148.1 ((rTopics R client).map Qd6,R).1).bind fun v199=>
  some v199)))) (· = true):=by
 obtain ⟨qe,qR⟩:=q;refine TotP.bindE (Qcs hq.ok) ?_;refine TotP.bindE (Qxv hn hd) ?_;obtain ⟨_,h1,h2,h3,h4,h5⟩:=hq
 simp only at h1 h2 h3 h4 h5 ⊢
 have hlen':((rTopics R client).map Qd6).length≤20:=by rw [Lp];exact hlen
 simp only [Je,Zp,Uz,Q5j,U3,Qy];refine TotP.cond (fun g=>?_) (fun g=>?_)
 ·obtain ⟨rfl,e2,e3⟩:=h1 (Aa g);refine TotP.bindE (Qfg _ (by omega)).tot ?_;refine TotP.cond (fun _=>?_) (fun g=>by cases g);refine TotP.cond (fun g1=>?_) (fun g1=>?_)
  ·have g1:=Aa g1;refine TotP.cond (fun _ => .ret rfl) (fun _=>?_);obtain ⟨p1,p2⟩:=e3.resolve_left (fun x=>x g1);refine TotP.cond (fun _ => .ret (Ad p2)) (fun g2=>absurd p1 (Ac g2))
  have g1:=Ac g1;have e2:=e2.resolve_left g1;refine TotP.cond (fun _=>?_) (fun g2=>absurd e2 (Ac g2));exact TotP.cond (fun _ => .ret rfl) (fun g2=>absurd g1 (Ac g2))
 have g:qe=0:=Dt.1 (Ac g);have hs:=h2 g;refine TotP.cond (fun g10=>?_) (fun g10=>?_)
 ·have g10:=Aa g10;obtain ⟨n1,n2⟩:=h3 g g10;obtain ⟨_,hid⟩:=Qgl hs g10;refine TotP.bindE (v:=((m.Name,0),qR)) (.of fun N=>by show some (Q4p qR client m.TopicID,qR)=_;rw [n1]) ?_;refine TotP.cond (fun x=>absurd rfl (Aa x)) (fun _=>?_);refine TotP.cond (fun x=>absurd rfl (Aa x)) (fun _=>?_);refine TotP.cond (fun x=>?_) (fun _=>?_)
  ·have x:=Aa x;simp only [Lp] at x hlen';rw [w64 _ (by omega)] at x;omega
  refine TotP.bindE (v:=(Q55 qR client m.TopicID,qR)) (.of fun N=>rfl) ?_;refine TotP.cond (fun x=>?_) (fun x=>?_)
  ·refine TotP.bind (Qu0 (T:=1) n1 (.inr rfl) (show Q55 qR client m.TopicID=true from x) hid hdat) (fun v hv=>?_);obtain ⟨v1,v2,v3⟩:=hv;refine TotP.cond (fun _=>?_) (fun y=>absurd hs (Ac y));refine TotP.cond (fun _=>?_) (fun y=>absurd v1 (Ac y));refine TotP.cond (fun _ => .ret (Ad v3)) (fun y=>absurd v2 (Ac y))
  refine TotP.bind (Qu0 (T:=0) n1 (.inl rfl) (show Q55 qR client m.TopicID=false from x) hid hdat) (fun v hv=>?_);obtain ⟨v1,v2,v3⟩:=hv;refine TotP.cond (fun _=>?_) (fun y=>absurd hs (Ac y));refine TotP.cond (fun _=>?_) (fun y=>absurd v1 (Ac y));refine TotP.cond (fun _ => .ret (Ad v3)) (fun y=>absurd v2 (Ac y))
 have g10:=Ac g10;refine TotP.cond (fun g4=>?_) (fun g4=>?_)
 ·have g4:=Aa g4;refine TotP.cond (fun gc=>?_) (fun gc=>?_)
  ·obtain ⟨c1,c2⟩:=h4 g g10 g4 gc;refine Qrv _ _ (by simp only [Lp];exact c1) (by simp only [];omega) (fun t ht=>?_);obtain ⟨u,hu,rfl⟩:=Ml.1 ht;exact c2 u hu
  obtain rfl:=h5 g g10 (fun x=>by rw [gc] at x;cases x.2);exact TotP.bindE (Qfg _ (by omega)).tot (.ret rfl)
 have g4:=Ac g4;obtain rfl:=h5 g g10 (fun x=>g4 x.1);exact TotP.bindE (Qfg _ (by omega)).tot (.ret rfl)
include h hm hn hd in
theorem Qp8:TotP (fun N=>Jl N R client m) (LrnQ R client m):=by
 have hok:=h.okAll (by omega) client;unfold Jl;refine TotP.bindE (Qok hn hd) ?_;simp only [Je,Zp];refine TotP.cond (fun g=>?_) (fun g=>?_)
 ·have g:=Aa g;exact .ret ⟨hok,fun _=>⟨rfl,.inr rfl,.inl g⟩,fun e=>absurd e g,fun e=>absurd e g,fun e=>absurd e g,fun e=>absurd e g⟩
 have hs:snE m=0:=Dt.1 (Ac g);have same:m.Type'≠10->¬ (m.Type'=4∧m.Flags.Clean=true)->LrnQ R client m (0,R):=fun a b=>⟨hok,fun e=>absurd rfl e,fun _=>hs,fun _ e=>absurd e a,fun _ _ x y=>absurd ⟨x,y⟩ b,fun _ _ _=>rfl⟩
 have lrn:m.Type'=10->TotP (fun N=>(Un N R client m).bind fun v=>some (v.1,v.2)) (LrnQ R client m):=fun a=>by
  obtain ⟨r1,r2⟩:=Qgl hs a;refine TotP.bind (Qqs h (by omega) r1 hn r2) (fun v hv => .ret ?_)
  rcases hv with rfl | ⟨v1,v2,v3,v4⟩
  ·exact ⟨hok,fun _=>⟨rfl,.inl hs,.inr ⟨rfl,a⟩⟩,fun e=>(by cases e),fun e=>(by cases e),fun e=>(by cases e),fun e=>(by cases e)⟩
  exact ⟨v2,fun e=>absurd v1 e,fun _=>hs,fun _ _=>⟨v3,v4⟩,fun _ x=>absurd a x,fun _ x=>absurd a x⟩
 refine TotP.cond (fun g4=>?_) (fun g4=>?_)
 ·have g4:=Aa g4;refine TotP.cond (fun gc=>?_) (fun gc=>?_)
  ·obtain ⟨r,hr,c1,c2,c3⟩:=Qot h (by omega) client;refine TotP.bindE (v:=r) (.of fun _=>hr) (.ret ?_);exact ⟨c1,fun e=>absurd rfl e,fun _=>hs,fun _ x=>(by rw [g4] at x;cases x),fun _ _ _ _=>⟨c2,c3⟩,fun _ _ x=>absurd ⟨g4,gc⟩ x⟩
  refine TotP.cond (fun x=>absurd (Aa x) (by rw [g4];decide)) (fun g10 => .ret (same (Ac g10) fun x=>by rw [gc] at x;cases x.2))
 have g4:=Ac g4;exact TotP.cond (fun g10=>lrn (Aa g10)) (fun g10 => .ret (same (Ac g10) fun x=>g4 x.1))
include h hm hn hd hdat in
theorem Qo5:TotP (fun N=>Qqu client m data N R) (· = true):=by
 have hok:=h.okAll (by omega) client
 have hlen:(rTopics R client).length≤20:=by
  unfold rTopics;rw [(Xr _).length_eq,Q5r]
  cases hc:Q5u R client with
  | none=>simp
  | some C=>exact Mq (h.get hc).len hm
 unfold Qqu;refine TotP.bindE (Qcs hok) ?_;refine TotP.bind (Qp8 h hm client m hn hd) (fun q hq=>?_);exact Qlg client m data hn hd hdat hlen hq
end
theorem Qt0 (t:List Q9) (client:List UInt8) (m:Yw) (data:List UInt8) (ht:t.length≤maxLen):∃ N,X4 N t client m data=some true:=by
 have key:TotP (fun N=>X4 N t client m data) (· = true):=by
  unfold X4;refine TotP.bindE (v:=true) (.of fun _=>rfl) ?_;refine TotP.cond (fun h=>by cases h) (fun _=>?_);refine TotP.bind (Qwy t ht) (fun v hv=>?_);refine TotP.cond (fun _ => .ret rfl) (fun g=>?_);obtain ⟨h1,h2⟩:=hv (by simpa using g);refine TotP.cond (fun _ => .ret rfl) (fun _=>?_);refine TotP.bind (V:=fun v=>v=true->m.Name.length≤70000∧m.Data.length≤70000) ?_ (fun v hv=>?_)
  ·unfold U7;rw [Vz,Vz];refine TotP.cond (fun g => .ret fun g2=>?_) (fun _ => .ret fun g=>by cases g);have g:=Aa g;have g2:=Aa g2;exact ⟨by omega,by omega⟩
  refine TotP.cond (fun _ => .ret rfl) (fun g=>?_);obtain ⟨h3,h4⟩:=hv (by simpa using g);rw [U3 (data.length:Int) 400];refine TotP.cond (fun _ => .ret rfl) (fun g=>?_)
  have h5:data.length≤400:=by have:=Ac g;omega
  have hm:200≤maxLen:=by unfold maxLen;decide
  have hri:RI t.length (Qi1 Q02 (Q9l t)):=by
   have:=Qxc Q02 (Q9l t)
   rwa [show (Q9l t).length=t.length by simp [Q9l]] at this
  refine Qlx (L:=fun N n i c' R=>Zl N t client m data n i c' R) (K:=fun N R=>Qqu client m data N R) h1 (fun y hy=>Mq (h2 y hy) hm) (fun N n i c' R=>?_) (Qo5 hri h1 client m data h3 h4 h5);show cond (Q2 .lss i ((Qi Q9.cells t).length:Int)) _ _=_;rw [Qy];rfl
 obtain ⟨N,hN⟩:=key.tot;exact ⟨N,hN N (Li _)⟩
end
abbrev Au := @TotP.ret
abbrev Aw := @TotP.tot
abbrev Ax := @TotP.bind
abbrev Ay := @TotP.bindE
abbrev Az := @TotP.cond
abbrev AA := @TotP.chk
abbrev AB := @Stp.fin
abbrev AC := @Stp.ret
abbrev AD := @Stp.go
abbrev AE := @Stp.bind
abbrev AF := @Stp.idx
abbrev AG := @Stp.cond
abbrev AH := @Stp.chk
end Go.Av
