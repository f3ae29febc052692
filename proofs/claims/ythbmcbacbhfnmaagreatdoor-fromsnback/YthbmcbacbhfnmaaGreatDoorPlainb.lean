/- Part of FromsnBack: the law returns true; no condition. -/
import Derived.Test.YthbmcbacbhfnmaaGreatDoorAvOwn
import Derived.Test.YthbmcbacbhfnmaaGreatDoorTpTopE
import Derived.Test.YthbmcbacbhfnmaaGreatDoorLiftF5
import Derived.Test.YthbmcbacbhfnmaaGreatDoorPlain
set_option linter.all false
open Go.IntKind (wrap)
namespace Go.Av
noncomputable section
set_option maxHeartbeats 4000000
section
variable {R A S T:Type}
def Tot (f:Nat->Option R) (r:R):Prop:=∃ N0,∀ N,N0≤N->f N=some r
def TotP (f:Nat->Option R) (Q:R->Prop):Prop:=∃ r,Q r∧Tot f r
theorem Tot.of {f:Nat->Option R} {r:R} (h:∀ N,f N=some r):Tot f r:=⟨0,fun N _=>h N⟩
theorem Tot.ret (r:R):Tot (fun _=>some r) r := .of fun _=>rfl
theorem Tot.bind {f:Nat->Option A} {g:Nat->A->Option R} {v:A} {r:R} (h1:Tot f v) (h2:Tot (fun N=>g N v) r):Tot (fun N=>(f N).bind (g N)) r:=by
 obtain ⟨a,ha⟩:=h1;obtain ⟨b,hb⟩:=h2;exact ⟨max a b,fun N hN=>by grind⟩
theorem TotP.of {f:Nat->Option R} {r:R} {Q:R->Prop} (hq:Q r) (h:Tot f r):TotP f Q:=⟨r,hq,h⟩
theorem TotP.ret {r:R} {Q:R->Prop} (h:Q r):TotP (fun _=>some r) Q:=⟨r,h,.ret r⟩
theorem TotP.mono {f:Nat->Option R} {Q Q':R->Prop} (h:TotP f Q) (hq:∀ r,Q r->Q' r):TotP f Q':=by
 obtain ⟨r,h1,h2⟩:=h;exact ⟨r,hq r h1,h2⟩
theorem TotP.tot {f:Nat->Option R} {r:R} (h:TotP f (· = r)):Tot f r:=by obtain ⟨x,rfl,h2⟩:=h;omega
theorem TotP.bind {f:Nat->Option A} {g:Nat->A->Option R} {V:A->Prop} {Q:R->Prop} (h1:TotP f V) (h2:∀ v,V v->TotP (fun N=>g N v) Q):TotP (fun N=>(f N).bind (g N)) Q:=by
 obtain ⟨v,hv,t⟩:=h1;obtain ⟨r,hr,u⟩:=h2 v hv;exact ⟨r,hr,t.bind u⟩
theorem TotP.bindE {f:Nat->Option A} {g:Nat->A->Option R} {v:A} {Q:R->Prop} (h1:Tot f v) (h2:TotP (fun N=>g N v) Q):TotP (fun N=>(f N).bind (g N)) Q:=by
 obtain ⟨r,hr,u⟩:=h2;exact ⟨r,hr,h1.bind u⟩
theorem TotP.cond {b:Bool} {f g:Nat->Option R} {Q:R->Prop} (h1:b=true->TotP f Q) (h2:b=false->TotP g Q):TotP (fun N=>cond b (f N) (g N)) Q:=gj
theorem TotP.chk {b:Bool} {f:Nat->Option R} {Q:R->Prop} (hb:b=true) (h:TotP f Q):TotP (fun N=>_root_.cond b (f N) none) Q:=by simp_all
theorem TotP.idx {l:List T} {i:Int} {y:T} {g:Nat->T->Option R} {Q:R->Prop} (h:idx l i=some y) (h2:TotP (fun N=>g N y) Q):TotP (fun N=>(Go.Av.idx l i).bind (g N)) Q:=
 .bindE (.of fun _=>h) h2
theorem TotP.optC {o:Option T} {f:Nat->T->Option R} {z:Nat->Option R} {Q:R->Prop} (h1:∀ v,o=some v->TotP (fun N=>f N v) Q) (h2:o=none->TotP z Q):TotP (fun N=>Go.Av.optC o (f N) (z N)) Q:=by
 cases o with
 | none=>exact h2 rfl
 | some v=>exact h1 v rfl
def Stp (L:Nat->Nat->S->Option R) (P:S->Prop) (Q:R->Prop) (f:Nat->Nat->Option R):Prop:=
 (∃ r N0,Q r∧∀ N n,N0≤N->f N n=some r)∨∃ s N0,P s∧∀ N n,N0≤N->f N n=L N n s
section
variable {L:Nat->Nat->S->Option R} {P:S->Prop} {Q:R->Prop}
theorem Stp.fin {f:Nat->Option R} (h:TotP f Q):Stp L P Q (fun N _=>f N):=by
 obtain ⟨r,h1,N0,h2⟩:=h;exact .inl ⟨r,N0,h1,fun N _ hN=>h2 N hN⟩
theorem Stp.ret {r:R} (h:Q r):Stp L P Q (fun _ _=>some r) := .inl ⟨r,0,h,fun _ _ _=>rfl⟩
theorem Stp.go (s:S) (h:P s):Stp L P Q (fun N n=>L N n s) := .inr ⟨s,0,h,fun _ _ _=>rfl⟩
theorem Stp.bind {f:Nat->Option A} {g:Nat->Nat->A->Option R} {V:A->Prop} (h1:TotP f V) (h2:∀ v,V v->Stp L P Q (fun N n=>g N n v)):Stp L P Q (fun N n=>(f N).bind (g N n)):=by
 obtain ⟨v,hv,a,ha⟩:=h1
 rcases h2 v hv with ⟨r,b,hr,hb⟩ | ⟨s,b,hs,hb⟩
 ·exact .inl ⟨r,max a b,hr,fun N n hN=>by grind⟩
 exact .inr ⟨s,max a b,hs,fun N n hN=>by grind⟩
theorem Stp.idx {l:List T} {i:Int} {y:T} {g:Nat->Nat->T->Option R} (h:idx l i=some y) (h2:Stp L P Q (fun N n=>g N n y)):Stp L P Q (fun N n=>(Go.Av.idx l i).bind (g N n)):=
 .bind (f:=fun _=>Go.Av.idx l i) (V:=(· = y)) ⟨y,rfl,.of fun _=>h⟩ (fun v hv=>by simp_all)
theorem Stp.cond {b:Bool} {f g:Nat->Nat->Option R} (h1:b=true->Stp L P Q f) (h2:b=false->Stp L P Q g):Stp L P Q (fun N n=>cond b (f N n) (g N n)):=gj
theorem Stp.chk {b:Bool} {f:Nat->Nat->Option R} (hb:b=true) (h:Stp L P Q f):Stp L P Q (fun N n=>_root_.cond b (f N n) none):=by simp_all
theorem Qar (inv:S->Prop) (μ:S->Nat) (step:∀ s,inv s->Stp L (fun s'=>inv s' ∧ μ s' < μ s) Q (fun N n=>L N (n+1) s)) (s:S) (h:inv s):TotP (fun N=>L N N s) Q:=by
 have key:∀ (m:Nat) (s:S),μ s<m->inv s->∃ r N0,Q r∧∀ N n,N0≤N->N0≤n->L N n s=some r:=by
  intro m
  induction m with
  | zero=>omega
  | succ m ih=>
   intro s hm hi
   rcases step s hi with ⟨r,N0,hr,hL⟩ | ⟨s',N0,⟨h1,h2⟩,hL⟩
   ·refine ⟨r,N0+1,hr,fun N n h1 h2=>?_⟩;exact iJ
   obtain ⟨r,M0,hr,hM⟩:=ih s' (by omega) h1;refine ⟨r,max N0 M0+1,hr,fun N n h1 h2=>?_⟩;exact iJ
 obtain ⟨r,N0,hr,hL⟩:=key (μ s+1) s (by omega) h;exact ⟨r,hr,N0,fun N hN=>hL N N hN hN⟩
end
theorem Q6t {L:Nat->Nat->Int->Option R} {Q:R->Prop} (m:Nat) (J:Nat->Prop) (step:∀ i,i<m->J i->Stp L (fun s=>s=((i+1:Nat):Int)∧J (i+1)) Q (fun N n=>L N (n+1) (i:Int)))
  (fin:J m->Stp L (fun _=>False) Q (fun N n=>L N (n+1) (m:Int))) (h0:J 0):TotP (fun N=>L N N 0) Q:=by
 refine Qar (S:=Int) (fun s=>∃ i:Nat,s=(i:Int)∧i≤m∧J i) (fun s=>m - s.toNat) ?_ 0 ⟨0,rfl,Lk _,h0⟩
 rintro s ⟨i,rfl,hi,hj⟩
 by_cases h:i<m
 ·rcases step i h hj with ⟨r,N0,hr,hL⟩ | ⟨s',N0,⟨rfl,h2⟩,hL⟩
  ·exact .inl ⟨r,N0,hr,hL⟩
  exact .inr ⟨_,N0,⟨⟨i+1,rfl,h,h2⟩,by omega⟩,hL⟩
 grind
end
theorem Qn (x y:Int):Q0 .lss x y=decide (x<y):=rfl
theorem Uy (x y:Int):Q0 .leq x y=decide (x≤y):=rfl
theorem Wc (x y:Int):Q0 .gtr x y=decide (x>y):=rfl
theorem Gm (x y:Int):Q0 .geq x y=decide (x≥y):=rfl
theorem Qx (x y:Int):Q0 .eql x y=decide (x=y):=by rfl
theorem Ym (x y:Int):Q0 .neq x y=decide (x≠y):=by grind [Q0]
theorem w64 (x:Int) (h : -9223372036854775808≤x∧x≤9223372036854775807):wrap .i64 x=x:=IntWalk.i64_in x h
theorem Z0 {T:Type} {l:List T} {i:Nat} (h:i<l.length):idx l (i:Int)=some l[i]:=La h
theorem Q7s:maxLen≤9223372036854775807:=iQ
end
end Go.Av
namespace Go.Av
noncomputable section
set_option maxHeartbeats 4000000
def at8 (s:List UInt8) (i:Nat):Nat:=(s.getD i 0).toNat
theorem Qdn (s:List UInt8) (i:Nat):at8 s i<256:=Cg _
theorem Qcn {s:List UInt8} {i:Nat} (h:i<s.length):at8 s i=(s[i]).toNat:=by simp [at8,h]
def goes (s:List UInt8) (i:Nat):Prop:=i<s.length∧128≤at8 s i∧at8 s i<192
instance (s:List UInt8) (i:Nat):Decidable (goes s i):=inferInstanceAs (Decidable (_∧_))
def Qgr (c:Nat):Prop:=¬ (55296≤c∧c≤57343)∧c≤1114111
instance (c:Nat):Decidable (Qgr c):=inferInstanceAs (Decidable (_∧_))
def Qa9 (s:List UInt8) (i:Nat):Nat×Nat:=
 if at8 s i<128 then (at8 s i,1)
 else if 192≤at8 s i∧at8 s i<224∧goes s (i+1)∧128≤64 * (at8 s i - 192)+(at8 s (i+1) - 128) then (64 * (at8 s i - 192)+(at8 s (i+1) - 128),2)
 else if 224≤at8 s i∧at8 s i<240∧goes s (i+1)∧goes s (i+2)∧2048≤64 * (64 * (at8 s i - 224)+(at8 s (i+1) - 128))+(at8 s (i+2) - 128)∧Qgr (64 * (64 * (at8 s i - 224)+(at8 s (i+1) - 128))+(at8 s (i+2) - 128)) then
  (64 * (64 * (at8 s i - 224)+(at8 s (i+1) - 128))+(at8 s (i+2) - 128),3)
 else if 240≤at8 s i∧at8 s i<248∧goes s (i+1)∧goes s (i+2)∧goes s (i+3)∧65536≤64 * (64 * (64 * (at8 s i - 240)+(at8 s (i+1) - 128))+(at8 s (i+2) - 128))+(at8 s (i+3) - 128) ∧
   Qgr (64 * (64 * (64 * (at8 s i - 240)+(at8 s (i+1) - 128))+(at8 s (i+2) - 128))+(at8 s (i+3) - 128)) then
  (64 * (64 * (64 * (at8 s i - 240)+(at8 s (i+1) - 128))+(at8 s (i+2) - 128))+(at8 s (i+3) - 128),4)
 else (65533,1)
theorem Qpj (c:Nat):Utf8.valid (c:Int)=true↔Qgr c:=by
 grind [Utf8.valid,Qgr]
theorem Z20 (a b c d:Nat) (G1 G2 G3:Prop) [Decidable G1] [Decidable G2] [Decidable G3] (h0:a<256) (q1:G1->128≤b∧b<192) (q2:G2->128≤c∧c<192) (q3:G3->128≤d∧d<192) :
  (if a<128 then (a,1)
   else if (a / 32 == 6&&decide G1)=true then (if a % 32 * 64+b % 64≥128 then (a % 32 * 64+b % 64,2) else (65533,1))
   else if (a / 16 == 14&&decide G1&&decide G2)=true then (if (decide (a % 16 * 4096+b % 64 * 64+c % 64≥2048)&&Utf8.valid ((a % 16 * 4096+b % 64 * 64+c % 64:Nat):Int))=true then (a % 16 * 4096+b % 64 * 64+c % 64,3) else (65533,1))
   else if (a / 8 == 30&&decide G1&&decide G2&&decide G3)=true then (if (decide (a % 8 * 262144+b % 64 * 4096+c % 64 * 64+d % 64≥65536)&&Utf8.valid ((a % 8 * 262144+b % 64 * 4096+c % 64 * 64+d % 64:Nat):Int))=true then (a % 8 * 262144+b % 64 * 4096+c % 64 * 64+d % 64,4) else (65533,1))
   else (65533,1)) =
  (if a<128 then (a,1)
   else if 192≤a∧a<224∧G1∧128≤64 * (a - 192)+(b - 128) then (64 * (a - 192)+(b - 128),2)
   else if 224≤a∧a<240∧G1∧G2∧2048≤64 * (64 * (a - 224)+(b - 128))+(c - 128)∧Qgr (64 * (64 * (a - 224)+(b - 128))+(c - 128)) then (64 * (64 * (a - 224)+(b - 128))+(c - 128),3)
   else if 240≤a∧a<248∧G1∧G2∧G3∧65536≤64 * (64 * (64 * (a - 240)+(b - 128))+(c - 128))+(d - 128)∧Qgr (64 * (64 * (64 * (a - 240)+(b - 128))+(c - 128))+(d - 128)) then
    (64 * (64 * (64 * (a - 240)+(b - 128))+(c - 128))+(d - 128),4)
   else (65533,1)):=by
 simp only [Le,Ag,Aj,Qpj,ge_iff_le];have e2:∀ x,Qgr x=(¬ (55296≤x∧x≤57343)∧x≤1114111):=fun x=>rfl
 by_cases c1:a<128
 ·simp_all
 rw [Ae c1,Ae c1]
 by_cases c2:a<192
 ·grind
 by_cases c3:a<224
 ·grind
 rw [Ae (by omega),Ae (c:=192≤a∧_) (by omega)]
 by_cases c5:a<240
 ·grind
 grind
theorem Z9o (s:List UInt8) (j:Nat):(decide (j<s.length)&&(at8 s j / 64 == 2))=decide (goes s j):=by
 grind [goes]
theorem Qs2 (s:List UInt8) (i:Nat):Qfz s i=Qa9 s i:=by
 have u:∀ j,(s.getD j 0).toNat=at8 s j:=fun _=>rfl;have:=Z20 (at8 s i) (at8 s (i+1)) (at8 s (i+2)) (at8 s (i+3)) (goes s (i+1)) (goes s (i+2)) (goes s (i+3)) (Qdn _ _) (fun h=>h.2) (fun h=>h.2) (fun h=>h.2);unfold Qa9;rw [← this];unfold Qfz;simp only [Bj,u,Z9o];rfl
theorem Qtp (s:List UInt8) (i:Nat) (h:i<s.length):1≤(Qa9 s i).2∧i+(Qa9 s i).2≤s.length∧((Qa9 s i).1<128↔at8 s i<128)∧(at8 s i<128->(Qa9 s i).1=at8 s i∧(Qa9 s i).2=1) ∧
  (∀ k,1≤k->k<(Qa9 s i).2->128≤at8 s (i+k))∧Qgr (Qa9 s i).1:=by
 have h0:=Qdn s i;unfold Qa9;split
 ·grind [Qgr]
 split
 ·rename_i h1 h2;obtain ⟨_,_,g1,h3⟩:=h2;refine ⟨by simp,by simp;have:=g1.1;omega,by omega,fun h=>by omega,fun k h4 h5=>?_,by unfold Qgr;simp only;have:=g1.2;omega⟩
  have:k=1:=by omega
  subst this;exact g1.2.1
 split
 ·rename_i h1 h2 h3;obtain ⟨_,_,g1,g2,h3,h6⟩:=h3;refine ⟨by simp,by simp;have:=g2.1;omega,by omega,fun h=>by omega,fun k h4 h5=>?_,h6⟩
  have:k=1∨k=2:=by omega
  rcases this with rfl | rfl
  ·exact g1.2.1
  exact g2.2.1
 split
 ·rename_i h1 h2 h3 h4;obtain ⟨_,_,g1,g2,g3,h3,h6⟩:=h4;refine ⟨by simp,by simp;have:=g3.1;omega,by omega,fun h=>by omega,fun k h4 h5=>?_,h6⟩
  have:k=1∨k=2∨k=3:=by omega
  rcases this with rfl | rfl | rfl
  ·exact g1.2.1
  ·exact g2.2.1
  exact g3.2.1
 grind [Qgr]
def Qvn (s:List UInt8) (i:Nat):Prop:=Qa9 s i=(65533,1)
instance (s:List UInt8) (i:Nat):Decidable (Qvn s i):=inferInstanceAs (Decidable (_=_))
def Qq3 (s:List UInt8) (pos:Nat):Option Nat:=
 if h:pos<s.length then (if (Qa9 s pos).1=0∨Qvn s pos then some pos else Qq3 s (pos+(Qa9 s pos).2)) else none
termination_by s.length - pos
decreasing_by grind [Qtp]
end
end Go.Av
namespace Go.Av
noncomputable section
set_option maxHeartbeats 4000000
open Go.Proofs
theorem Z6f {b:UInt8} {n:Nat} (h:b.toNat=n) (hn:n<256):b=UInt8.ofNat n:=by
 apply UInt8.toNat_inj.1;rw [h];simp [UInt8.toNat_ofNat];omega
theorem Qwl {s:List UInt8} {i:Nat} (hi:i<s.length) (hc:(Qa9 s i).1=65533):(3≤(s.drop i).length∧(s.drop i).take 3 = [239,191,189])↔¬ Qvn s i:=by
 constructor
 ·rintro ⟨h1,h2⟩ hn
  have hl:i+2<s.length:=by grind
  have g:∀ k,k<3->s[i+k]? = ([239,191,189]:List UInt8)[k]? := by grind
  have a0:at8 s i=239:=by have:=g 0 (by omega);exact i9
  have a1:at8 s (i+1)=191:=by simp_all [at8]
  have a2:at8 s (i+2)=189:=by have:=g 2 (by omega);exact i9
  grind [goes,Qvn,Qa9,Qgr]
 intro hn;have h0:=Qdn s i;unfold Qvn at hn;unfold Qa9 at hn hc;split at hn
 ·simp_all
 rename_i h1;rw [Ae h1] at hc;split at hn
 ·rename_i h2;rw [Af h2] at hc;obtain ⟨_,_,g1,_⟩:=h2;have:=g1.2;omega
 rename_i h2;rw [Ae h2] at hc;split at hn
 ·rename_i h3;rw [Af h3] at hc;obtain ⟨_,_,g1,g2,_⟩:=h3;have b1:=g1.2;have b2:=g2.2;have l2:=g2.1
  simp only at hc
  have a0:at8 s i=239:=by omega
  have a1:at8 s (i+1)=191:=by omega
  have a2:at8 s (i+2)=189:=by omega
  rw [Qcn (by omega)] at a0 a1 a2;refine ⟨by grind,?_⟩;apply Lw;intro k;rw [Nd]
  by_cases hk:k<3
  ·rw [Af hk,Mx]
   have:k=0∨k=1∨k=2:=by omega
   rcases this with rfl | rfl | rfl
   ·simp_all [Z6f]
   ·rw [La (by omega),Z6f a1 (by omega)];rfl
   simp_all [Z6f]
  grind
 grind
theorem Z35 (N:Nat) (s:List UInt8):Q2n N s=some (decide (3≤s.length∧s.take 3 = [239,191,189])):=by
 unfold Q2n;rw [Gm]
 by_cases h:3≤s.length
 ·have h1:decide ((s.length:Int)≥3)=true:=by grind
  have h2:(Nat.ble 0 3&&Nat.ble 3 s.length)=true:=by simp_all
  grind [Q10]
 grind
def Z7z (o:Option Nat):Int:=match o with
 | some p=>p
 | none => -1
theorem Z56 (s:List UInt8):Tot (fun N=>Q6z N s) (Z7z (Qq3 s 0)):=by
 refine TotP.tot ?_;show TotP (fun N=>Ux N s N 0) _;refine Qar (L:=fun N n (p:Nat)=>Ux N s n p) (fun p=>Qq3 s p=Qq3 s 0) (fun p=>s.length - p) (fun p hp=>?_) 0 rfl;show Stp _ _ _ (fun N n=>cond (Nat.blt p s.length) _ _);refine Stp.cond (fun h=>?_) (fun h=>?_)
 ·have hl:p<s.length:=by simp_all
  rw [Qs2];have hw:=Qtp s p hl
  have hb:Qq3 s p=(if (Qa9 s p).1=0∨Qvn s p then some p else Qq3 s (p+(Qa9 s p).2)):=by grind [Qq3]
  rw [Qx,Qx];refine Stp.cond (fun h0=>?_) (fun h0=>?_)
  ·have h0:(Qa9 s p).1=0:=by simp_all
   refine Stp.ret ?_;rw [← hp,hb,Af (.inl h0)];rfl
  have h0:(Qa9 s p).1≠0:=by simp_all
  refine Stp.cond (fun h1=>?_) (fun h1=>?_)
  ·have h1:(Qa9 s p).1=65533:=by grind
   refine Stp.chk fy ?_;rw [List.take_length];refine Stp.bind (V:=(· = decide (3≤(s.drop p).length∧(s.drop p).take 3 = [239,191,189]))) ⟨_,rfl,.of fun N=>Z35 N _⟩ ?_
   rintro v rfl
   have hwi:=Qwl hl h1;refine Stp.cond (fun h2=>?_) (fun h2=>?_)
   ·have h2:¬ (3≤(s.drop p).length∧(s.drop p).take 3 = [239,191,189]):=by simp_all
    have h3:Qvn s p:=Lo fun h=>h2 (hwi.2 h);refine Stp.ret ?_;rw [← hp,hb,Af (.inr h3)];rfl
   have h2:(3≤(s.drop p).length∧(s.drop p).take 3 = [239,191,189]):=by simp_all
   refine Stp.go (p+(Qa9 s p).2) ⟨?_,by omega⟩
   simp_all
  have h1:(Qa9 s p).1≠65533:=by grind
  refine Stp.go (p+(Qa9 s p).2) ⟨?_,by omega⟩
  grind [Qvn]
 have hl:¬ p<s.length:=fun hlt=>by
  grind [Nat.blt_eq]
 refine Stp.ret ?_;rw [← hp,Qq3,dif_neg hl];rfl
def Q8z (s:List UInt8):Bool:=decide (s.length≤65535)&&(Qq3 s 0).isNone
theorem Z2k (o:Option Nat):decide (Z7z o = -1)=o.isNone:=by
 cases o<;>simp_all [Z7z]
theorem Qe5 (s:List UInt8):Tot (fun N=>Wy N s) (Q8z s):=by
 refine TotP.tot ?_;show TotP (fun N=>cond (Q0 .leq (s.length:Int) 65535) _ _) _;rw [Uy];refine TotP.cond (fun h=>?_) (fun h=>?_)
 ·have h:s.length≤65535:=by grind
  refine TotP.bindE (Z56 s) (.ret ?_)<;>simp_all [Qx,Z2k,Q8z]
 exact hI
end
end Go.Av
namespace Go.Av
noncomputable section
set_option maxHeartbeats 4000000
open Go.Proofs
theorem Qtq (s:List UInt8):Tot (fun N=>Q69 N s) (decide (s ≠ [])&&Q8z s):=by
 refine TotP.tot ?_;show TotP (fun N=>cond (Q10 .neq s []) _ _) _
 have e:Q10 .neq s []=decide (s ≠ []):=by cases s<;>rfl
 rw [e];refine TotP.cond (fun h=>?_) (fun h=>?_)
 ·exact .bindE (Qe5 s) (.ret (by simp_all))
 exact .ret (by simp_all)
theorem Qz8 (c:UInt8):∀ (l:List UInt8) (i:Nat),(0≤Qk4 l c i)↔c∈l
 | [],i=>by simp [Qk4]
 | b::l,i=>by
  unfold Qk4
  by_cases h:b == c
  ·simp_all
  rw [Ae h,Qz8 c l (i+1)]
  grind
theorem Z09 {c:Nat} (h:Qgr c) (h1:128≤c):∃ l:List UInt8,(Utf8.encode (c:Int)).data.toList=l∧2≤l.length∧l.length≤4∧∀ b∈l,128≤b.toNat:=by
 have hv:=(Qpj c).2 h;unfold Utf8.encode;simp only [hv,Ak,Nn];have h2:=h.2
 grind [UInt8.toNat_ofNat']
theorem Z5j {c:Nat} (hc:Qgr c) (N:Nat):Vv N (c:Int)=some true:=by
 unfold Vv;simp only [Uy,Qn];obtain ⟨k1,k2⟩:=hc<;>grind
theorem Z32 {c:Nat} (hc:Qgr c) (h:128≤c) (M:Nat):Vh (M+1) [43,35] (c:Int) (M+1)=some (-1):=by
 obtain ⟨l,hl,l1,l2,l3⟩:=Z09 hc h;rw [Vh];simp only [hl,Qn,Ym]
 have ew:wrap .i64 ((l.length:Int) - 1)=((l.length - 1:Nat):Int):=bS
 rw [ew]
 by_cases h2:l.length=2
 ·have e1:((l.length - 1:Nat):Int)=((1:Nat):Int):=by omega
  rw [e1];have e2:idx l ((1:Nat):Int)=some l[1]:=Z0 (by omega);have e3:=l3 l[1] (Mc _);generalize l[1]=y at e2 e3
  have e4:decide (((35:UInt8).toNat:Int)≠(y.toNat:Int))=true:=by grind
  have e5:idx ([43,35]:List UInt8) ((1:Nat):Int)=some 35:=rfl
  have e6:wrap .i64 (((1:Nat):Int)+1)=2:=by decide
  have e7:decide (((1:Nat):Int)<((([43,35]:List UInt8).length:Nat):Int))=true:=by decide
  have e8:decide ((0:Int)≤2)=true:=by decide
  rw [e7,Ai,e5,Lf,e2,Lf,e4,Ai,e6,e8,Ai];rfl
 grind
theorem Qlo {c:Nat} (hc:Qgr c):TotP (fun N=>Q22 N [43,35] (c:Int)) (fun v=>decide (v≥0)=decide (c=43∨c=35)):=by
 show TotP (fun N=>cond (Q0 .leq 0 (c:Int)) _ _) _
 have e0:Q0 .leq 0 (c:Int)=true:=by rfl
 rw [e0];refine TotP.cond (fun _=>?_) (fun h=>by cases h);unfold J0;rw [Qn,Qx];refine TotP.cond (fun h=>?_) (fun h=>?_)
 ·have h:c<128:=by grind
  have ew:wrap .u8 (c:Int)=c:=by grind [IntWalk.u8_in]
  refine TotP.bindE (v:=Qk4 [43,35] (UInt8.ofNat c) 0) (.of fun N=>?_) (.ret ?_)
  ·show ((Yo N [43,35] _).bind fun v=>some v)=_;rw [ew];rfl
  have:=Qz8 (UInt8.ofNat c) [43,35] 0;rw [decide_eq_decide];show (0≤_)↔_;rw [this]
  have e1:∀ n,n<256->(UInt8.ofNat c=UInt8.ofNat n↔c=n):=fun n hn=>by
   grind [UInt8.toNat_ofNat']
  have a:=e1 43 (by omega);have b:=e1 35 (by omega)
  simp_all
 have h:128≤c:=by grind
 have hn:decide (c=43∨c=35)=false:=by grind
 refine TotP.cond (fun h1=>?_) (fun h1=>?_)
 ·-- bytes that are none
  refine ⟨-1,by simp_all,3,fun N hN=>?_⟩;obtain ⟨M,rfl⟩:∃ M,N=M+3:=⟨N - 3,by omega⟩;rfl
 refine TotP.bindE (.of (Z5j hc)) ?_;refine TotP.cond (fun h=>by cases h) (fun _=>?_);refine ⟨-1,by simp_all,1,fun N hN=>?_⟩;obtain ⟨M,rfl⟩:∃ M,N=M+1:=⟨N - 1,by omega⟩;exact Z32 hc h M
end
end Go.Av
namespace Go.Av
noncomputable section
open Go.Proofs
def Qud (s:List UInt8):Bool:=s.any fun b=>b.toNat == 43||b.toNat == 35
theorem Z4g {s:List UInt8} {j:Nat} (hj:j<s.length) (h:at8 s j=43∨at8 s j=35):Qud s=true:=by
 unfold Qud;rw [List.any_eq_true];refine ⟨s[j],Mc _,?_⟩;rw [Qcn hj] at h
 rcases h with h | h<;>simp [h]
theorem Z4p {s:List UInt8} (h:∀ j,j<s.length->at8 s j≠43∧at8 s j≠35):Qud s=false:=by
 unfold Qud;rw [List.any_eq_false];intro b hb;obtain ⟨j,hj,rfl⟩:=Mt hb;have:=h j hj;rw [Qcn hj] at this;simp [this.1,this.2]
def asciiS:List Bool:=(List.range 256).map fun n=>n == 43||n == 35
theorem Qwo (n:Nat) (h:n<256):idx asciiS (n:Int)=some (n == 43||n == 35):=by
 have hl:n<asciiS.length:=by simp [asciiS];exact h
 rw [Z0 hl];simp [asciiS]
set_option maxRecDepth 20000 in
theorem Qp4 (s:List UInt8) (hs:s.length≤maxLen):TotP (fun N=>Q0m N s) (fun v=>decide (v≥0)=Qud s):=by
 have hm:=Q7s;show TotP (fun N=>cond (Q10 .eql [43,35] []) _ _) _;refine TotP.cond (fun h=>by cases h) (fun _=>?_);refine TotP.bindE (v:=decide ((s.length:Int)>8)) (.of fun N=>rfl) ?_;refine TotP.cond (fun _=>?_) (fun _=>?_)
 ·refine Q6t (L:=fun N n i=>Wt N s n i) s.length (fun i=>∀ j,j<i->at8 s j≠43∧at8 s j≠35) (fun i hi hj=>?_) (fun hj=>?_) (fun j hj=>by omega)
  ·show Stp _ _ _ (fun N n=>cond (Q0 .lss (i:Int) (s.length:Int)) _ _);refine Stp.cond (fun _=>?_) (fun h=>by rw [Qn] at h;have:=Ac h;omega);refine Stp.idx (Z0 hi) ?_;have hb:=Cg s[i];refine Stp.chk fy ?_;refine Stp.idx (Qwo _ (by omega)) ?_;refine Stp.cond (fun h=>?_) (fun h=>?_)
   ·refine Stp.ret ?_;rw [Z4g hi (by rw [Qcn hi];exact gP)];simp
   rw [w64 _ (by omega)];refine Stp.go _ ⟨by omega,fun j hj'=>?_⟩
   by_cases e:j=i
   ·subst e;rw [Qcn hi];exact gP
   exact hj j (by omega)
  show Stp _ _ _ (fun N n=>cond (Q0 .lss (s.length:Int) (s.length:Int)) _ _);refine Stp.cond (fun h=>by rw [Qn] at h;have:=Aa h;omega) (fun _=>?_);refine Stp.ret ?_;rw [Z4p hj];rfl
 refine Qar (L:=fun N n (p:Nat)=>Ws N s n p) (fun p=>∀ j,j<p->at8 s j≠43∧at8 s j≠35) (fun p=>s.length - p) (fun p hp=>?_) 0 (fun j hj=>by omega);show Stp _ _ _ (fun N n=>cond (Nat.blt p s.length) _ _);refine Stp.cond (fun h=>?_) (fun h=>?_)
 ·have hl:p<s.length:=by simpa [Nat.blt_eq] using h
  rw [Qs2];obtain ⟨w1,w2,w3,w4,w5,w6⟩:=Qtp s p hl;refine Stp.bind (Qlo w6) ?_;intro v hv;rw [Gm,hv];refine Stp.cond (fun h=>?_) (fun h=>?_)
  ·have h:=Aa h;have h128:at8 s p<128:=w3.1 (by omega);refine Stp.ret ?_;rw [Z4g hl (by rw [← (w4 h128).1];exact h)];simp
  have h:=Ac h;refine Stp.go _ ⟨fun j hj=>?_,by omega⟩
  by_cases e:j<p
  ·exact hp j e
  by_cases e2:j=p
  ·subst e2
   by_cases h128:at8 s j<128
   ·rw [(w4 h128).1] at h;omega
   omega
  have:=w5 (j - p) (by omega) (by omega);rw [show p+(j - p)=j by omega] at this;omega
 refine Stp.ret ?_;rw [Z4p (fun j hj=>hp j ?_)]
 ·rfl
 have:¬ p<s.length:=fun hlt=>by
  have h':Nat.blt p s.length=true:=by rw [Bl];exact hlt
  rw [h'] at h;cases h
 omega
theorem Qfs (s:List UInt8) (hs:s.length≤maxLen):Tot (fun N=>Xr N s) (Qud s):=by
 refine TotP.tot ?_;refine TotP.bind (Qp4 s hs) (fun v hv => .ret ?_);rw [Gm];exact hv
def Q0j (s:List UInt8):Bool:=decide (s ≠ [])&&Q8z s && !Qud s
theorem Q6y (s:List UInt8) (hs:s.length≤maxLen):Tot (fun N=>Wg N s) (Q0j s):=by
 refine TotP.tot ?_;refine TotP.bindE (Qtq s) ?_;refine TotP.cond (fun h=>?_) (fun h=>?_)
 ·refine TotP.bindE (Qfs s hs) (.ret ?_);unfold Q0j;rw [h];rfl
 exact .ret (by unfold Q0j;rw [h];rfl)
end
end Go.Av
namespace Go.Av
noncomputable section
set_option maxHeartbeats 4000000
def Any {R:Type} (f:Nat->Option R):Prop:=TotP f fun _=>True
theorem Qgh (N:Nat) (x a b:Int):Gr N x a b=some (decide (a≤x)&&decide (x≤b)):=by
 grind [Gr,Gm,Uy]
theorem Qm0 (n size:Int):TotP (fun N=>Z2 N n size) (fun l=>l.length≤16):=by
 show TotP (fun N=>cond (Q0 .leq size 0) _ _) _;rw [Uy];refine TotP.cond (fun _ => .ret (by simp)) (fun h=>?_)
 have h:0<size:=by simp_all
 obtain ⟨m,hm,hm16⟩:∃ m:Nat,ifB (decide (16<size)) (16:Int) size=(m:Int)∧m≤16:=by
  by_cases g:16<size
  ·exact ⟨16,by rw [Ad g];rfl,by omega⟩
  exact ⟨size.toNat,by rw [Ab g];show size=_;omega,by omega⟩
 rw [hm];refine TotP.chk (by grind) ?_;have:=Qar (L:=fun N n' (p:Int×List Int)=>Vi N n size n' p.1 p.2) (Q:=fun l:List UInt8=>l.length≤16) (fun p=>∃ i:Nat,p.1=(i:Int)∧i≤m∧p.2.length=m) (fun p=>m - p.1.toNat)
  ?_ (0,List.replicate ((m:Int).toNat) 0) ⟨0,rfl,by omega,by simp⟩
 ·omega
 rintro ⟨s,l⟩ ⟨i,hs,hi,hl⟩
 simp only at hs hl
 subst hs;show Stp _ _ _ (fun N n'=>cond (Q0 .lss (i:Int) (ifB (decide (16<size)) 16 size)) _ _);rw [hm,Qn,Qn];refine Stp.cond (fun h=>?_) (fun h=>?_)
 ·have h:=Aa h
  have e1:wrap .i64 ((i:Int)+1)=((i+1:Nat):Int):=bS
  refine Stp.cond (fun h8=>?_) (fun h8=>?_)
  ·have h8:=Aa h8;refine Stp.chk ?_ ?_
   ·rw [w64 (8 * (i:Int)) (by omega)];rfl
   have e2:wrap .i64 (wrap .i64 ((m:Int) - 1) - (i:Int))=((m - 1 - i:Nat):Int):=bS
   rw [e1,e2];refine Stp.idx (Z0 (show m - 1 - i<l.length by omega)) ?_;refine Stp.go (L:=fun N n' (p:Int×List Int)=>Vi N n size n' p.1 p.2) (_,_) ⟨⟨i+1,rfl,by omega,by simp_all⟩,?_⟩
   grind
  rw [e1];refine Stp.go (L:=fun N n' (p:Int×List Int)=>Vi N n size n' p.1 p.2) (_,_) ⟨⟨i+1,rfl,by omega,hl⟩,?_⟩
  grind
 simp_all [Stp.ret]
theorem Ql1 (x:Int):TotP (fun N=>Q0z N x) (fun r=>r.1.length≤268435456):=by
 show TotP (fun N=>(Q6e N x).bind _) _
 have hm:∀ N,Q6e N x=some (decide (0≤x)&&decide (x≤268435455)):=fun N=>by
  show cond (Q0 .geq x 0) (some (Q0 .leq x 268435455)) (some false)=_
  grind [Gm,Uy]
 refine TotP.bindE (.of hm) ?_;refine TotP.cond (fun _ => .ret (by simp)) (fun h=>?_)
 have h:0≤x∧x≤268435455:=by simp_all
 have:=Qar (L:=fun N n' (p:Int×List Int)=>Jj N n' p.1 p.2) (Q:=fun r:List UInt8×Int=>r.1.length≤268435456) (fun p=>0≤p.1∧(p.2.length:Int)≤268435455 - p.1) (fun p=>p.1.toNat)
  ?_ (x,[]) ⟨h.1,by simp_all⟩
 ·omega
 rintro ⟨s,l⟩ ⟨h1,h2⟩
 simp only at h1 h2
 show Stp _ _ _ (fun N n'=>cond (Q0 .geq s 128) _ _);rw [Gm];refine Stp.cond (fun h=>?_) (fun h=>?_)
 ·have h:=Aa h;refine Stp.chk dH ?_;have e:s.tdiv 128=s / 128:=Int.tdiv_eq_ediv_of_nonneg h1;rw [e,w64 _ (by omega)];refine Stp.go (L:=fun N n' (p:Int×List Int)=>Jj N n' p.1 p.2) (_,_) ⟨⟨by omega,by grind⟩,by omega⟩
 refine Stp.chk dH ?_;exact Stp.ret (by grind)
theorem Qkl (s:List UInt8):TotP (fun N=>Q25 N s) (fun r=>r.1.length≤65551):=by
 show TotP (fun N=>cond (Q0 .gtr (s.length:Int) 65535) _ _) _;rw [Wc];refine TotP.cond (fun _ => .ret (by simp)) (fun h=>?_);have h:=Ac h;refine TotP.bind (f:=fun N=>Q3w N s) (V:=fun l=>l.length≤65551) ?_ (fun v hv => .ret hv);refine TotP.bind (Qm0 _ _) (fun v hv=>?_);refine TotP.chk bT (.ret ?_)
 grind
section
variable (e:Qg) (lm:Yq) (h1:e.Hops.length≤8) (h2:∀ h∈e.Hops,h.Node.length≤300)
include h1 h2
end
end
end Go.Av
namespace Go.Av
noncomputable section
section
variable {R S T:Type} {L:Nat->Nat->S->Option R} {P:S->Prop} {Q:R->Prop}
theorem Stp.optN {f:Nat->Nat->T->Option R} {z:Nat->Nat->Option R} (h:Stp L P Q z):Stp L P Q (fun N n=>optC none (f N n) (z N n)):=h
theorem Stp.optS {v:T} {f:Nat->Nat->T->Option R} {z:Nat->Nat->Option R} (h:Stp L P Q (fun N n=>f N n v)):Stp L P Q (fun N n=>optC (some v) (f N n) (z N n)):=h
end
theorem Qo3 {T:Type} {x:Int} {v:T}:∀ {tab:List (Int×T)},Qbc tab x=some v->(x,v)∈tab
 | (k,w)::r,h=>by
  unfold Qbc at h
  cases hb:x == k with
  | true=>rw [hb] at h;have e:=eq_of_beq hb;subst e;cases h;exact List.mem_cons_self
  | false=>rw [hb] at h;exact List.mem_cons_of_mem _ (Qo3 h)
 | [],h=>nomatch h
theorem Z27 {x:Int} {v:Qy} (h:Qbc F_prop_rules_tab x=some v):1≤x∧x≤42:=by
 have hall:(F_prop_rules_tab.all fun q=>decide (1≤q.1)&&decide (q.1≤42))=true:=by decide +kernel
 have:=Ln.1 hall _ (Qo3 h);simpa using this
theorem Qzc (s:Int) (p:Z5):TotP (fun N=>Q1m N s p) (fun l=>l.length≤268500000):=by
 refine TotP.cond (fun _=>TotP.bind (Qm0 _ _) (fun v hv => .ret (by omega))) (fun _=>?_);refine TotP.cond (fun _=>TotP.bind (Qm0 _ _) (fun v hv => .ret (by omega))) (fun _=>?_);refine TotP.cond (fun _=>TotP.bind (Qm0 _ _) (fun v hv => .ret (by omega))) (fun _=>?_);refine TotP.cond (fun _=>TotP.bind (Ql1 _) (fun v hv => .ret (by omega))) (fun _=>?_);refine TotP.bind (Qkl _) (fun v hv=>?_);refine TotP.cond (fun _ => .ret (by omega)) (fun _=>?_);refine TotP.bind (Qkl _) (fun w hw=>?_);exact TotP.chk bT (.ret (by simp only [Mp];omega))
end
end Go.Av
namespace Go.Av
noncomputable section
set_option maxHeartbeats 4000000
theorem Qht (l:List Z5) (hb:l.length≤maxLen):TotP (fun N=>Zr N l) (fun v=>v=true->l.length≤30∧∀ p∈l,p.Text.length≤300∧p.Value.length≤300):=by
 have hm:=Q7s
 ·refine Q6t (L:=fun N n s=>Yv N l n s) l.length (fun i=>∀ j (h:j<l.length),j<i->(l[j]).Text.length≤300∧(l[j]).Value.length≤300) (fun i hi hj=>?_) (fun hj=>?_) (fun j _ hj=>by omega)
  ·show Stp _ _ _ (fun N n=>cond (Q0 .lss (i:Int) ((Q7 Z5.cells l).length:Int)) _ _);rw [Q6,Qn];refine Stp.cond (fun _=>?_) (fun h=>by simp_all);refine Stp.idx (Z0 hi) ?_;rw [Wc];refine Stp.cond (fun _=>Stp.ret (fun h=>nomatch h)) (fun h1=>?_);refine Stp.idx (Z0 hi) ?_;rw [Wc];refine Stp.cond (fun _=>Stp.ret (fun h=>nomatch h)) (fun h2=>?_);have h1:=Ac h1;have h2:=Ac h2;rw [w64 _ (by omega)];refine Stp.go (L:=fun N n s=>Yv N l n s) _ ⟨by omega,fun j hj' hji=>?_⟩
   grind
  show Stp _ _ _ (fun N n=>cond (Q0 .lss (l.length:Int) ((Q7 Z5.cells l).length:Int)) _ _);rw [Q6,Qn];refine Stp.cond (fun h=>by simp_all) (fun _=>Stp.ret (fun h=>⟨?_,fun p hp=>?_⟩))
  ·grind [Uy]
  exact fH
theorem Zc4 (x:Int):wrap .i64 x≤9223372036854775807:=gu
theorem Qye:∀ (k:Nat) (v:Q4) (deep most:Int),deep<(k:Int)->-1≤deep->deep≤1000->most≤9223372036854775807->Any (fun N=>Yf N v deep most):=by
 intro k
 induction k with
 | zero=>
  intro v deep most h _ _ _;refine ⟨wrap .i64 (most+1),trivial,1,fun N hN=>?_⟩;obtain ⟨M,rfl⟩:∃ M,N=M+1:=⟨N - 1,by omega⟩;show cond (Q0 .lss deep 0) _ _=_
  simp_all [Qn]
 | succ k ih=>
  intro v deep most h hd hdm hm
  have body:Any (fun N=>Gx (Yf N) N v deep most):=by
   refine TotP.cond (fun _ => .ret trivial) (fun h1=>?_);refine TotP.cond (fun _ => .ret trivial) (fun h2=>?_);refine TotP.cond (fun _ => .ret trivial) (fun _=>?_);rw [Qn] at h1;rw [Q4.rows_eq,Q6,Wc] at h2;have h1:=Ac h1;have h2:=Ac h2;have:=Qar (L:=fun N n (p:Int×Int)=>Yw (Yf N) N v deep most n p.1 p.2) (Q:=fun _=>True) (fun p=>∃ i:Nat,p.2=(i:Int)∧i≤v.Items.length) (fun p=>v.Items.length - p.2.toNat) ?_ (1,0) ⟨0,rfl,by omega⟩
   ·omega
   rintro ⟨q,s⟩ ⟨i,hs,hi⟩
   simp only at hs
   subst hs;show Stp _ _ _ (fun N n=>cond (Q0 .lss (i:Int) ((Q4.rows v.Items).length:Int)) _ _);rw [Q4.rows_eq,Q6,Qn];refine Stp.cond (fun h=>?_) (fun _=>Stp.ret trivial);have h:=Aa h
   have hi:i<v.Items.length:=by omega
   refine Stp.cond (fun _=>?_) (fun _=>Stp.ret trivial);refine Stp.idx (Z0 hi) ?_;rw [w64 (deep - 1) (by omega)];refine Stp.bind (f:=fun N=>Yf N (v.Items[i]) (deep - 1) (wrap .i64 (most - q))) (V:=fun _=>True) (ih v.Items[i] (deep - 1) (wrap .i64 (most - q)) (by omega) (by omega) (by omega) (Zc4 (most - q))) (fun w _=>?_);rw [w64 ((i:Int)+1) (by omega)];refine Stp.go (L:=fun N n (p:Int×Int)=>Yw (Yf N) N v deep most n p.1 p.2) (_,_) ⟨⟨i+1,by rfl,by omega⟩,by omega⟩
  obtain ⟨r,_,N0,hN⟩:=body;refine ⟨r,trivial,N0+1,fun N h=>?_⟩;obtain ⟨M,rfl⟩:∃ M,N=M+1:=⟨N - 1,by omega⟩;exact hN M (by omega)
theorem Qx6 (f:X9):Any (fun N=>Xq N f):=by
 refine TotP.cond (fun _ => .ret trivial) (fun h0=>?_);rw [Q4.rows_eq,Q6,Wc] at h0;have h0:=Ac h0;refine TotP.cond (fun _ => .ret trivial) (fun _=>?_);refine Q6t (L:=fun N n s=>Y6 N f n s) f.Values.length (fun _=>True) (fun i hi _=>?_) (fun _=>?_) trivial
 ·show Stp _ _ _ (fun N n=>cond (Q0 .lss (i:Int) ((Q4.rows f.Values).length:Int)) _ _);rw [Q4.rows_eq,Q6];refine Stp.cond (fun _=>?_) (fun _=>Stp.ret trivial);refine Stp.idx (Z0 hi) ?_;refine Stp.bind (V:=fun _=>True) (TotP.bind (Qye 7 _ 6 40 (by decide) (by decide) (by decide) (by decide)) (fun _ _ => .ret trivial)) (fun _ _=>?_);refine Stp.cond (fun _=>Stp.ret trivial) (fun _=>?_);rw [w64 _ (by omega)]
  simp_all [Stp.go]
 show Stp _ _ _ (fun N n=>cond (Q0 .lss (f.Values.length:Int) ((Q4.rows f.Values).length:Int)) _ _)
 simp_all [Q4.rows_eq,Q6,Qn,Stp.ret]
structure OkE (e:Qg):Prop where
 topic:e.Topic.length≤maxLen
 props:e.Props.length≤maxLen
 filters:e.Packet.Filters.length≤maxLen
 pprops:e.Packet.Props.length≤maxLen
 wprops:e.Packet.Will.Props.length≤maxLen
structure LightE (e:Qg):Prop where
 topic:e.Topic.length≤2000
 payload:e.Payload.length≤2000
 props:e.Props.length≤30∧∀ p∈e.Props,p.Text.length≤300∧p.Value.length≤300
 hops:e.Hops.length≤8∧∀ h∈e.Hops,h.Node.length≤300
def Lv (o:Option Int) (P:Prop):Prop:=∃ v,o=some v∧(v=0->P)
theorem Lv.of {v:Int} {P:Prop} (h:P):Lv (some v) P:=⟨v,rfl,fun _=>h⟩
theorem Lv.no {v:Int} {P:Prop} (h:v≠0):Lv (some v) P:=⟨v,rfl,fun e=>absurd e h⟩
theorem Lv.cond {b:Bool} {x y:Option Int} {P:Prop} (h1:Lv x P) (h2:Lv y P):Lv (cond b x y) P:=by grind
structure PubE (e:Qg):Prop where
 proto:e.Proto=1∨e.Proto=2∨e.Proto=3∨e.Proto=4
 kind:e.Kind=1
 qos:e.QoS = -1∨e.QoS=0∨e.QoS=1∨e.QoS=2
theorem Z0n (N:Nat) (p:Int):Q5a N p=some (decide (p=1∨p=2∨p=3∨p=4)):=by
 by_cases h:p=1∨p=2∨p=3∨p=4
 ·rw [Ad h];rcases h with rfl | rfl | rfl | rfl<;>rfl
 have h0:Qbc Q2l p=none:=by
  have h1:(p == 1)=false:=by simp_all
  have h2:(p == 2)=false:=by simp_all
  have h3:(p == 3)=false:=by simp_all
  have h4:(p == 4)=false:=by simp_all
  unfold Q2l;simp only [Qbc,h1,h2,h3,h4,Ah]
 unfold Q5a;rw [h0,Ab h];rfl
end
end Go.Av
namespace Go.Av
noncomputable section
open Go.Proofs
set_option maxRecDepth 100000
end
end Go.Av
namespace Go.Av
noncomputable section
open Go.Proofs
set_option maxRecDepth 100000
end
end Go.Av
namespace Go.Av
noncomputable section
open Go.Proofs
set_option maxRecDepth 100000
end
end Go.Av
namespace Go.Av
noncomputable section
set_option maxHeartbeats 4000000
open Go.Proofs
set_option maxRecDepth 100000
theorem Qkk {R:Q4->Q4->Option Bool} {N:Nat} {a b:Q4} (hlen:a.Items.length=b.Items.length) (hb:a.Items.length<4611686018427387904)
  (hR:∀ y∈a.Items,∀ z,R y z=some (decide (y=z))):∀ (n i:Nat),i≤a.Items.length->a.Items.length - i<n ->
  W4 R N a b n (i:Int)=some (decide (a.Items.drop i=b.Items.drop i))
 | 0,i,_,h=>by omega
 | n+1,i,h1,h2=>by
  simp only [W4,Q2f,Qie,Q28]
  by_cases hi:i<a.Items.length
  ·rw [Af (by omega),Q7i,Q7i,La hi,La (show i<b.Items.length by omega)];simp only [Lf,hR _ (Mc hi)];rw [Q6v _ (by omega)];have ih:=Qkk (N:=N) hlen hb hR n (i+1) (by omega) (by omega)
   grind [List.drop_eq_getElem_cons,List.cons.injEq]
  grind
theorem Qla:∀ (N:Nat) (a b:Q4),a.sz<N->a.sz<1000000000->Va N a b=some (decide (a=b))
 | 0,a,b,h,_=>by omega
 | N+1,a,b,h,h2=>by
  have hs:=a.sz_eq;have hl:=Q4.szs_len a.Items;simp only [Va,Q13,Q2f,Z25,Qgi,Q28]
  by_cases e1:a.Kind=b.Kind
  ·by_cases e2:a.N'=b.N'
   ·by_cases e3:a.Text=b.Text
    ·by_cases e4:a.Items.length=b.Items.length
     ·rw [Ae (by omega),Ae (by omega),Ae (by simp_all),Ae (by omega)];have:=Qkk (N:=N) (R:=Va N) e4 (by omega) (fun y hy z=>Qla N y z er er) N 0 (by omega) (by omega);exact gL
     rw [Ae (by omega),Ae (by omega),Ae (by simp_all),Af (by omega)];have:a≠b:=fun e=>e4 (by rw [e])
     simp_all
    rw [Ae (by omega),Ae (by omega),Af (by omega)];have:a≠b:=fun e=>e3 (by rw [e])
    simp_all
   rw [Ae (by omega),Af (by omega)];have:a≠b:=fun e=>e2 (by rw [e])
   simp_all
  rw [Af (by omega)];have:a≠b:=fun e=>e1 (by rw [e])
  simp_all
end
end Go.Av
namespace Go.Av
noncomputable section
open Go.Proofs
set_option maxRecDepth 100000
end
end Go.Av
namespace Go.Av
noncomputable section
open Go.Proofs
set_option maxRecDepth 100000
end
end Go.Av
namespace Go.Av
noncomputable section
open Go.Proofs
set_option maxRecDepth 100000
end
end Go.Av
namespace Go.Av
noncomputable section
open Go.Proofs
set_option maxRecDepth 100000
end
end Go.Av
namespace Go.Av
noncomputable section
open Go.Proofs
set_option maxRecDepth 100000
mutual
def Q4.wgt:Q4->Nat
 | .mk _ _ t is=>t.length+30+Q4.wgts is
def Q4.wgts:List Q4->Nat
 | []=>0
 | v::l=>v.wgt+Q4.wgts l
end
theorem Q4.wgt_eq (v:Q4):v.wgt=v.Text.length+30+Q4.wgts v.Items:=by cases v;simp only [Q4.wgt]
end
end Go.Av
namespace Go.Av
noncomputable section
open Go.Proofs
set_option maxRecDepth 100000
end
end Go.Av
namespace Go.Av
noncomputable section
open Go.Proofs
set_option maxRecDepth 100000
end
end Go.Av
namespace Go.Av
noncomputable section
open Go.Proofs
set_option maxRecDepth 100000
end
end Go.Av
namespace Go.Av
noncomputable section
open Go.Proofs
set_option maxRecDepth 100000
end
end Go.Av
namespace Go.Av
noncomputable section
open Go.Proofs
set_option maxRecDepth 100000
end
end Go.Av
namespace Go.Av
noncomputable section
open Go.Proofs
set_option maxRecDepth 100000
end
end Go.Av
namespace Go.Av
noncomputable section
open Go.Proofs
set_option maxRecDepth 100000
theorem Z7d (v:Q4) (h:v.txt):v.wgt≤430 * v.sz:=by
 induction v using Q4.ind with
 | h v ih=>
  rw [Q4.txt_eq] at h
  have hl:∀ l:List Q4,(∀ x∈l,x.wgt≤430 * x.sz)->Q4.wgts l≤430 * Q4.szs l:=by
   intro l
   induction l with
   | nil=>intro _;simp [Q4.wgts]
   | cons x l ihl=>
    intro h;have h1:=h x (.head _);have h2:=ihl (fun y hy=>h y (.tail _ hy));simp only [Q4.wgts,Q4.szs];omega
  have:=hl v.Items (fun x hx=>ih x hx (Qlx _ h.2 x hx));rw [v.wgt_eq,v.sz_eq];omega
end
end Go.Av
namespace Go.Av
noncomputable section
open Go.Proofs
set_option maxRecDepth 100000
end
end Go.Av
namespace Go.Av
noncomputable section
open Go.Proofs
set_option maxRecDepth 100000
end
end Go.Av
namespace Go.Av
noncomputable section
open Go.Proofs
set_option maxRecDepth 100000
structure FB (f:X9):Prop where
 fine:∀ x∈f.Values,Fine x
 sz:Q4.szs f.Values<160000000
 wgt:Q4.wgts f.Values<4000000000
theorem FB.len {f:X9} (h:FB f):f.Values.length<160000000:=by
 have h1:=Q4.szs_len f.Values;have h2:=h.sz;omega
end
end Go.Av
namespace Go.Av
noncomputable section
set_option maxHeartbeats 4000000
open Go.Proofs
set_option maxRecDepth 100000
theorem X9.ext' {a b:X9} (h1:a.Type'=b.Type') (h2:a.Channel=b.Channel) (h3:a.Ext=b.Ext) (h4:a.Values=b.Values):a=b:=i4
noncomputable instance:DecidableEq X9:=fun a b=>decidable_of_iff (a.Type'=b.Type'∧a.Channel=b.Channel∧a.Ext=b.Ext∧a.Values=b.Values) ⟨fun h=>X9.ext' h.1 h.2.1 h.2.2.1 h.2.2.2,fun h=>by simp_all⟩
theorem Qs1 (l m:List Q4) (i:Nat) (h:i<l.length) (h':i<m.length):decide (l.drop i=m.drop i)=(decide (l[i]=m[i])&&decide (l.drop (i+1)=m.drop (i+1))):=by
 grind [List.drop_eq_getElem_cons]
theorem Qop {N:Nat} (hN:800000000≤N) {a b:X9} (ha:Q4.szs a.Values<700000000) (hl:a.Values.length=b.Values.length):∀ (n i:Nat),i≤a.Values.length->a.Values.length - i<n->Ua N a b n (i:Int)=some (decide (a.Values.drop i=b.Values.drop i))
 | 0,i,_,h=>by omega
 | n+1,i,hi,hn=>by
  have hs:=Q4.szs_len a.Values;simp only [Ua,Q2f,Qie,Q28,Q7i]
  by_cases h:i<a.Values.length
  ·have h':i<b.Values.length:=by omega
   have hx:=Q4.szs_mem _ _ (Mc h);rw [Af (by omega),La h,La h'];simp only [Lf];rw [Qze N _ _ (by omega) (by omega),Qs1 _ _ i h h'];simp only [Lf];rw [Q6v _ (by omega)];have ih:=Qop hN ha hl n (i+1) (by omega) (by omega)
   grind
  grind
theorem Qp5 {N:Nat} (hN:800000000≤N) (a b:X9) (ha:Q4.szs a.Values<700000000):Gv N a b=some (decide (a=b)):=by
 have hs:=Q4.szs_len a.Values;simp only [Gv,Q2f,Z25,Qgi,Q28]
 by_cases h1:a.Type'=b.Type'
 ·rw [Ae (by omega)]
  by_cases h2:a.Channel=b.Channel
  ·rw [Ae (by omega)]
   by_cases h3:a.Ext=b.Ext
   ·rw [Ae (by simp_all)]
    by_cases h4:a.Values.length=b.Values.length
    ·rw [Ae (by omega)];have:=Qop hN ha h4 N 0 (by omega) (by omega)
     grind [decide,X9.ext']
    rw [Af (by omega),Ab (fun h=>h4 (by rw [h]))]
   rw [Af h3,Ab (fun h=>h3 (by rw [h]))]
  rw [Af h2,Ab (fun h=>h2 (by rw [h]))]
 rw [Af h1,Ab (fun h=>h1 (by rw [h]))]
theorem Qfj {N:Nat} (hN:800000000≤N) {a b:X9} (ha:Q4.szs a.Values<700000000) (hl:a.Values.length=b.Values.length):∀ (n i:Nat),i≤a.Values.length->a.Values.length - i<n->W9 N a b n (i:Int)=some (decide (a.Values.drop i=b.Values.drop i))
 | 0,i,_,h=>by omega
 | n+1,i,hi,hn=>by
  have hs:=Q4.szs_len a.Values;simp only [W9,Q2f,Qie,Q28,Q7i]
  by_cases h:i<a.Values.length
  ·have h':i<b.Values.length:=by omega
   have hx:=Q4.szs_mem _ _ (Mc h);rw [Af (by omega),La h,La h'];simp only [Lf];rw [Qla N _ _ (by omega) (by omega),Qs1 _ _ i h h'];simp only [Lf];rw [Q6v _ (by omega)];have ih:=Qfj hN ha hl n (i+1) (by omega) (by omega)
   grind
  grind
theorem Qfp {N:Nat} (hN:800000000≤N) (a b:X9) (ha:Q4.szs a.Values<700000000):Uv N a b=some (decide (a=b)):=by
 have hs:=Q4.szs_len a.Values;simp only [Uv,Q2f,Z25,Qgi,Q28]
 by_cases h1:a.Type'=b.Type'
 ·rw [Ae (by omega)]
  by_cases h2:a.Channel=b.Channel
  ·rw [Ae (by omega)]
   by_cases h3:a.Ext=b.Ext
   ·rw [Ae (by simp_all)]
    by_cases h4:a.Values.length=b.Values.length
    ·rw [Ae (by omega)];have:=Qfj hN ha h4 N 0 (by omega) (by omega)
     grind [decide,X9.ext']
    rw [Af (by omega),Ab (fun h=>h4 (by rw [h]))]
   rw [Af h3,Ab (fun h=>h3 (by rw [h]))]
  rw [Af h2,Ab (fun h=>h2 (by rw [h]))]
 rw [Af h1,Ab (fun h=>h1 (by rw [h]))]
theorem Qoi {N:Nat} (hN:800000000≤N) {f:X9} (hl:f.Values.length≤6):∀ (n i:Nat),i≤f.Values.length->f.Values.length - i<n->∃ b,Y6 N f n (i:Int)=some b∧(b=true->∀ x∈f.Values.drop i,x.sz≤40∧x.txt)
 | 0,i,_,h=>by omega
 | n+1,i,hi,hn=>by
  simp only [Y6,Q2f,Qie,Q28,Q7i]
  by_cases h:i<f.Values.length
  ·rw [Af (by omega),La h];obtain ⟨b1,l1,l2⟩:=Qtw N f.Values[i] (by omega);simp only [Lf,l1]
   cases b1 with
   | false=>simp
   | true=>
    rw [Q6v _ (by omega)];obtain ⟨b,e1,e2⟩:=Qoi hN hl n (i+1) (by omega) (by omega);refine ⟨b,?_,fun hb x hx=>?_⟩<;>grind [List.drop_eq_getElem_cons]
  simp_all [List.drop_of_length_le]
theorem Qqv {N:Nat} (hN:800000000≤N) (f:X9):∃ b,Xq N f=some b∧(b=true->f.Values.length≤6∧f.Ext.length≤1100∧∀ x∈f.Values,x.sz≤40∧x.txt):=by
 simp only [Xq,Q2f,Z5x,Q28]
 by_cases h1:(f.Values.length:Int)>6
 ·simp_all
 rw [Ae h1]
 by_cases h2:(f.Ext.length:Int)>1100
 ·simp_all
 rw [Ae h2];obtain ⟨b,e1,e2⟩:=Qoi hN (f:=f) (by omega) N 0 (by omega) (by omega);refine ⟨b,by exact_mod_cast e1,fun hb=>⟨by omega,by omega,?_⟩⟩
 simp_all
theorem Qkz:∀ (l:List Q4),(∀ x∈l,x.sz≤40∧x.txt)->Q4.szs l≤40 * l.length∧Q4.wgts l≤17200 * l.length
 | [],_=>by simp [Q4.szs,Q4.wgts]
 | x::m,h=>by
  have h1:=h x (.head _);have h2:=Qkz m (fun y hy=>h y (.tail _ hy))
  grind [Z7d,Q4.szs,Q4.wgts]
theorem Z29 {f:X9} (hl:f.Values.length≤6) (h:∀ x∈f.Values,x.sz≤40∧x.txt) (hv:∀ x∈f.Values,OkV x):FB f:=by
 obtain ⟨h1,h2⟩:=Qkz _ h;exact ⟨fun x hx=>Z7m x (hv x hx) (h x hx).2,by omega,by omega⟩
end
end Go.Av
namespace Go.Av
noncomputable section
set_option maxHeartbeats 4000000
theorem Q08 (x y:List UInt8):Q10 .eql x y=decide (x=y):=by
 show (x == y)=_
 grind
theorem Q60 (x y:List UInt8):Q10 .neq x y=decide (x≠y):=by
 show (!(x == y))=_
 grind
section
variable {T:Type}
theorem Qdh {L:Nat->Nat->Int->Option Bool} {a b:List T} {eq:T->T->Bool} (heq:∀ x y,eq x y=true↔x=y) (hab:a.length=b.length) (hm:a.length≤maxLen)
  (step:∀ N n (i:Nat) (h:i<a.length) (h':i<b.length),L N (n+1) (i:Int)=cond (!(eq a[i] b[i])) (some false) (L N n (wrap .i64 ((i:Int)+1)))) (fin:∀ N n,L N (n+1) (a.length:Int)=some true) :
  TotP (fun N=>L N N 0) (fun v=>v=true↔a=b):=by
 have hml:=Q7s;refine Q6t (L:=L) a.length (fun i=>∀ j (h:j<a.length) (h':j<b.length),j<i->a[j]=b[j]) (fun i hi hj=>?_) (fun hj=>?_) (fun j _ _ hj=>by omega)
 ·have e:(fun N n=>L N (n+1) (i:Int))=fun N n=>cond (!(eq (a[i]'hi) (b[i]'(by omega)))) (some false) (L N n (wrap .i64 ((i:Int)+1))):=by grind
  rw [e,w64 _ (by omega)];refine Stp.cond (fun h=>Stp.ret ?_) (fun h=>Stp.go (L:=L) _ ⟨by omega,fun j hj1 hj2 hji=>?_⟩)
  ·grind
  grind
 have e:(fun N n=>L N (n+1) (a.length:Int))=fun _ _=>some true:=by simp_all
 rw [e];exact Stp.ret ⟨fun _=>List.ext_getElem hab (fun j h1 h2=>hj j h1 h2 h1),fun _=>rfl⟩
end
theorem Z66 {x y:Z5}:(((x.ID:Int) == y.ID)&&(((x.N':Int) == y.N')&&(((x.Text:List UInt8) == y.Text)&&(((x.Value:List UInt8) == y.Value)&&true))))=true↔x=y:=iK
theorem Zj8 {x y:Vc}:(((x.Radius:Int) == y.Radius)&&(((x.Node:List UInt8) == y.Node)&&true))=true↔x=y:=iK
theorem Qxy {x y:Yp}:(((x.Topic:List UInt8) == y.Topic)&&(((x.QoS:Int) == y.QoS)&&(((x.NoLocal:Bool) == y.NoLocal)&&(((x.AsPublished:Bool) == y.AsPublished)&&(((x.Handling:Int) == y.Handling)&&true)))))=true↔x=y:=iK
theorem Qfv (a b:List Z5) (ha:a.length≤maxLen):TotP (fun N=>Uq N a b) (fun v=>v=true↔a=b):=by
 unfold Uq;rw [Q6,Q6,Ym];refine TotP.cond (fun h => .ret ⟨fun h=>(by cases h),fun e=>?_⟩) (fun h=>?_)
 ·simp_all
 have h:=Ac h
 have hab:a.length=b.length:=by omega
 refine Qdh (L:=fun N n i=>V4 N a b n i) (eq:=fun x y=>((x.ID:Int) == y.ID)&&(((x.N':Int) == y.N')&&(((x.Text:List UInt8) == y.Text)&&(((x.Value:List UInt8) == y.Value)&&true)))) (fun _ _=>Z66) hab ha (fun N n i h h'=>?_) (fun N n=>?_)
 ·show cond (Q0 .lss (i:Int) ((Q7 Z5.cells a).length:Int)) ((idx a (i:Int)).bind _) _=_;exact gK
 exact db
theorem Qp8 (a b:List Z5) (ha:a.length≤maxLen):TotP (fun N=>Q7q N a b) (fun v=>v=true↔a=b):=by
 unfold Q7q;rw [Q6,Q6,Ym];refine TotP.cond (fun h => .ret ⟨fun h=>(by cases h),fun e=>?_⟩) (fun h=>?_)
 ·simp_all
 have h:=Ac h
 have hab:a.length=b.length:=by omega
 refine Qdh (L:=fun N n i=>Q2b N a b n i) (eq:=fun x y=>((x.ID:Int) == y.ID)&&(((x.N':Int) == y.N')&&(((x.Text:List UInt8) == y.Text)&&(((x.Value:List UInt8) == y.Value)&&true)))) (fun _ _=>Z66) hab ha (fun N n i h h'=>?_) (fun N n=>?_)
 ·exact eo
 exact db
theorem Qqo (a b:List Vc) (ha:a.length≤maxLen):TotP (fun N=>Xw N a b) (fun v=>v=true↔a=b):=by
 unfold Xw;rw [Q6,Q6,Ym];refine TotP.cond (fun h => .ret ⟨fun h=>(by cases h),fun e=>?_⟩) (fun h=>?_)
 ·simp_all
 have h:=Ac h
 have hab:a.length=b.length:=by omega
 refine Qdh (L:=fun N n i=>Y9 N a b n i) (eq:=fun x y=>((x.Radius:Int) == y.Radius)&&(((x.Node:List UInt8) == y.Node)&&true)) (fun _ _=>Zj8) hab ha (fun N n i h h'=>?_) (fun N n=>?_)
 ·exact en
 exact fw
theorem Qjk (a b:List Yp) (ha:a.length≤maxLen):TotP (fun N=>J1 N a b) (fun v=>v=true↔a=b):=by
 unfold J1;rw [Q6,Q6,Ym];refine TotP.cond (fun h => .ret ⟨fun h=>(by cases h),fun e=>?_⟩) (fun h=>?_)
 ·simp_all
 have h:=Ac h
 have hab:a.length=b.length:=by omega
 refine Qdh (L:=fun N n i=>Wf N a b n i) (eq:=fun x y=>((x.Topic:List UInt8) == y.Topic)&&(((x.QoS:Int) == y.QoS)&&(((x.NoLocal:Bool) == y.NoLocal)&&(((x.AsPublished:Bool) == y.AsPublished)&&(((x.Handling:Int) == y.Handling)&&true))))) (fun _ _=>Qxy) hab ha (fun N n i h h'=>?_) (fun N n=>?_)
 ·show cond (Q0 .lss (i:Int) ((Q7 Yp.cells a).length:Int)) ((idx a (i:Int)).bind _) _=_;exact gK
 exact fx
theorem Qq8 (a b:List Int) (ha:a.length≤maxLen):TotP (fun N=>Q2v N a b) (fun v=>v=true↔a=b):=by
 unfold Q2v;rw [Q6,Q6,Ym];refine TotP.cond (fun h => .ret ⟨fun h=>(by cases h),fun e=>?_⟩) (fun h=>?_)
 ·simp_all
 have h:=Ac h
 have hab:a.length=b.length:=by omega
 refine Qdh (L:=fun N n i=>G0 N a b n i) (eq:=fun x y=>Q0 .eql x y) (fun x y=>by simp) hab ha (fun N n i h h'=>?_) (fun N n=>?_)
 ·show cond (Q0 .lss (i:Int) ((Q7 (cI .i64) a).length:Int)) ((idx a (i:Int)).bind _) _=_;exact gK
 exact fl
structure Z30 (p:Zj):Prop where
 codes:p.Codes.length≤maxLen
 filters:p.Filters.length≤maxLen
 props:p.Props.length≤maxLen
 wprops:p.Will.Props.length≤maxLen
theorem Qo1 (a b:Q3r) (ha:a.Props.length≤maxLen):TotP (fun N=>Q32 N a b) (fun v=>v=true↔a=b):=by
 obtain ⟨t,p,q,r,l⟩:=a;obtain ⟨t',p',q',r',l'⟩:=b;unfold Q32;dsimp only;rw [Q08,Q08,Qx];refine TotP.cond (fun h1=>?_) (fun h1 => .ret ⟨fun h=>(by cases h),fun e=>?_⟩)
 ·refine TotP.cond (fun h2=>?_) (fun h2 => .ret ⟨fun h=>(by cases h),fun e=>?_⟩)
  ·refine TotP.cond (fun h3=>?_) (fun h3 => .ret ⟨fun h=>(by cases h),fun e=>?_⟩)
   ·refine TotP.cond (fun h4=>?_) (fun h4 => .ret ⟨fun h=>(by cases h),fun e=>?_⟩)
    ·refine TotP.bind (Qfv l l' ha) (fun v hv => .ret ?_)
     simp_all
    simp_all
   simp_all
  simp_all
 simp_all
theorem Qfb (a b:Zj) (ha:Z30 a):TotP (fun N=>Q5h N a b) (fun v=>v=true↔a=b):=by
 unfold Q5h;refine TotP.bindE (.of fun N=>rfl) ?_;refine TotP.bindE (.of fun N=>rfl) ?_;refine TotP.cond (fun h1=>?_) (fun h1 => .ret ⟨fun h=>(by cases h),fun e=>?_⟩)
 ·refine TotP.bind (Qo1 a.Will b.Will ha.wprops) (fun v2 h2=>?_);refine TotP.cond (fun e2=>?_) (fun e2 => .ret ⟨fun h=>(by cases h),fun e=>?_⟩)
  ·refine TotP.bind (Qq8 a.Codes b.Codes ha.codes) (fun v3 h3=>?_);refine TotP.cond (fun e3=>?_) (fun e3 => .ret ⟨fun h=>(by cases h),fun e=>?_⟩)
   ·refine TotP.bind (Qjk a.Filters b.Filters ha.filters) (fun v4 h4=>?_);refine TotP.cond (fun e4=>?_) (fun e4 => .ret ⟨fun h=>(by cases h),fun e=>?_⟩)
    ·refine TotP.bind (Qfv a.Props b.Props ha.props) (fun v5 h5 => .ret ?_);rw [h5];have e2:=h2.1 e2;have e3:=h3.1 e3;have e4:=h4.1 e4;obtain ⟨a1,a2,a3,a4,a5,a6,a7,a8,a9,a10,a11,a12,a13,a14,a15,a16,a17,a18,a19,a20,a21⟩:=a;obtain ⟨b1,b2,b3,b4,b5,b6,b7,b8,b9,b10,b11,b12,b13,b14,b15,b16,b17,b18,b19,b20,b21⟩:=b
     simp_all
    simp_all
   simp_all
  simp_all
 simp_all
end
end Go.Av
namespace Go.Av
noncomputable section
set_option maxHeartbeats 4000000
theorem Qx4 {R:Type} {f:Nat->Option R} {r:R} (h:Tot f r):Any f:=⟨r,trivial,h⟩
theorem TotP.any {R:Type} {f:Nat->Option R} {Q:R->Prop} (h:TotP f Q):Any f:=h.mono fun _ _=>trivial
theorem Z49 {k:Int} (h:0≤k∧k≤18446744073709551615):wrap .u64 k=k:=IntWalk.u64_in k h
theorem Z0s (r:Qy) (k:Int):Any (fun N=>Q03 N r k):=by
 unfold Q03;rw [Gm,Uy];refine TotP.cond (fun h1=>?_) (fun _ => .ret trivial);refine TotP.cond (fun h2=>?_) (fun _ => .ret trivial);have h1:=Aa h1;have h2:=Aa h2;exact TotP.chk (by grind [Z49]) (.ret trivial)
theorem Qui (r:Qy) (k:Int) (p:Z5) (h1:p.Text.length≤maxLen):Any (fun N=>Q2z N r k p):=by
 refine TotP.bind (Z0s r k) (fun _ _=>?_)
 have num:Any (fun N=>Q0i N r p):=by
  unfold Q0i
  exact fu
 have hV:∀ s,Any (fun N=>Wy N s):=fun s=>Qx4 (Qe5 s);have hN:Any (fun N=>Wg N p.Text):=Qx4 (Q6y _ h1)
 repeat' first
  | exact TotP.ret trivial
  | refine TotP.cond (fun _=>?_) (fun _=>?_)
  | refine TotP.bind (by first | exact hV _ | exact hN | exact num) (fun _ _=>?_)
theorem Qur (k i:Int):Any (fun N=>Q49 N k i):=by
 unfold Q49
 exact fu
theorem Qx2 (k:Int) (p:Z5):Tot (fun N=>Q2z N ⟨0,0,0,0⟩ k p) 9:=by
 refine .of fun N=>?_
 have e:Q03 N ⟨0,0,0,0⟩ k=some false:=by
  unfold Q03;rw [Gm,Uy]
  by_cases h1:k≥1
  ·by_cases h2:k≤16
   ·rw [Ad h1,Ad h2]
    have:k=1∨k=2∨k=3∨k=4∨k=5∨k=6∨k=7∨k=8∨k=9∨k=10∨k=11∨k=12∨k=13∨k=14∨k=15∨k=16:=by omega
    rcases this with rfl | rfl | rfl | rfl | rfl | rfl | rfl | rfl | rfl | rfl | rfl | rfl | rfl | rfl | rfl | rfl<;>rfl
   grind
  grind
 simp_all [Q2z]
def Z1q (k:Int) (l:List Z5) (N n:Nat) (p:Int×List Int×List Int):Option (List UInt8×Int):=Y8 N k l n p.1 p.2.1 p.2.2
theorem Qtv (k:Int) (l:List Z5) (hl:l.length≤30) (hp:∀ p∈l,p.Text.length≤maxLen) (a:List Int) (ha:a.length=64):TotP (fun N=>Y8 N k l N 0 a []) (fun r=>r.1.length≤9000000000):=by
 have:=Qar (L:=Z1q k l) (Q:=fun r=>r.1.length≤9000000000) (fun p=>∃ i:Nat,p.1=(i:Int)∧i≤l.length∧p.2.1.length=64∧p.2.2.length≤i * 268600000) (fun p=>l.length - p.1.toNat)
  ?_ (0,a,[]) ⟨0,rfl,by omega,ha,by simp⟩
 ·exact this
 rintro ⟨s,b,o⟩ ⟨i,hs,hi,hb,ho⟩
 simp only at hs hb ho
 subst hs;show Stp _ _ _ (fun N n'=>cond (Q0 .lss (i:Int) ((Q7 Z5.cells l).length:Int)) _ _);rw [Q6,Qn];refine Stp.cond (fun h=>?_) (fun h=>?_)
 ·have h:=Aa h
  have hi:i<l.length:=by omega
  refine Stp.idx (Z0 hi) ?_;have hT:=hp _ (Mc hi);generalize l[i]=y at hT
  have e1:wrap .i64 ((i:Int)+1)=((i+1:Nat):Int):=bS
  have go:∀ (b' o':List Int),b'.length=64->o'.length≤(i+1) * 268600000->Stp (Z1q k l) (fun s'=>(∃ i:Nat,s'.1=(i:Int)∧i≤l.length∧s'.2.1.length=64∧s'.2.2.length≤i * 268600000)∧l.length - s'.1.toNat<l.length - (i:Int).toNat) (fun r=>r.1.length≤9000000000) (fun N n=>Y8 N k l n (wrap .i64 ((i:Int)+1)) b' o'):=by
   intro b' o' h1 h2;rw [e1];exact Stp.go (L:=Z1q k l) ((i+1:Nat),b',o') ⟨⟨i+1,rfl,by omega,h1,h2⟩,by omega⟩
  show Stp _ _ _ (fun N n=>optC (Qbc F_prop_rules_tab y.ID) _ _)
  cases hk:Qbc F_prop_rules_tab y.ID with
  | none=>
   refine Stp.optN ?_;refine Stp.bind (V:=(· = 9)) ⟨9,rfl,Qx2 k y⟩ (fun v hv=>?_);subst hv;exact Stp.cond (fun _=>Stp.ret (by simp)) (fun h=>nomatch h)
  | some r=>
   have hid:=Z27 hk;obtain ⟨q,hk'⟩:∃ q:Nat,y.ID=(q:Int):=⟨y.ID.toNat,by omega⟩
   have hk64:q<64:=by omega
   refine Stp.optS ?_;refine Stp.bind (Qui r k y hT) (fun v _=>?_);refine Stp.cond (fun _=>Stp.ret (by simp)) (fun _=>?_);refine Stp.chk (by grind) ?_;rw [hk'];refine Stp.idx (Z0 (show q<b.length by omega)) ?_;refine Stp.idx (Z0 (show q<b.length by omega)) ?_;refine Stp.idx (Z0 (show q<(b.set _ _).length by simp_all)) ?_
   have hb':∀ x y,(b.set x y).length=64:=fun x y=>by simp_all
   have tail:Stp (Z1q k l) (fun s'=>(∃ i:Nat,s'.1=(i:Int)∧i≤l.length∧s'.2.1.length=64∧s'.2.2.length≤i * 268600000)∧l.length - s'.1.toNat<l.length - (i:Int).toNat) (fun r=>r.1.length≤9000000000)
     (fun N n=>cond (Nat.ble ((o.length+1+4096) * 1) 17592186044416) ((Q1m N r.shape y).bind fun v130=>
      cond (Nat.beq v130.length 0)
      (Y8 N k l n (wrap .i64 ((i:Int)+1)) (b.set (Int.toNat (q:Int)) (wrap .i64 (b[q]+1))) (o ++ [(wrap .u8 (q:Int))]))
      (cond (Nat.ble (((o.length+1)+v130.length+4096) * 1) 17592186044416) (Y8 N k l n (wrap .i64 ((i:Int)+1)) (b.set (Int.toNat (q:Int)) (wrap .i64 (b[q]+1))) ((o ++ [(wrap .u8 (q:Int))])++(v130.map fun b=>(b.toNat:Int)))) none)) none):=by
    refine Stp.chk bT ?_;refine Stp.bind (Qzc _ _) (fun v hv=>?_);refine Stp.cond (fun _=>go _ _ (hb' _ _) (by grind)) (fun _=>?_);refine Stp.chk bT ?_;exact go _ _ (hb' _ _) (by grind)
   refine Stp.cond (fun _=>?_) (fun _=>tail);refine Stp.bind (Qur _ _) (fun v _=>?_)<;>simp_all [Stp.cond,Stp.ret]
 refine Stp.fin ?_
 have vb:TotP (fun N=>(Q0z N (o.length:Int)).bind fun v169=>cond (Q0 .neq v169.2 0) (some (([]:List UInt8),(4:Int))) (cond (Nat.ble (v169.1.length+(o.map fun n=>UInt8.ofNat n.toNat).length) 4611686018427387904) (some ((v169.1++(o.map fun n=>UInt8.ofNat n.toNat)),0)) none)) (fun r=>r.1.length≤9000000000):=by
  refine TotP.bind (Ql1 _) (fun v hv=>?_);refine TotP.cond (fun _ => .ret (by simp)) (fun _=>?_);exact TotP.chk dH (.ret (by grind))
 refine TotP.idx (Z0 (show 22<b.length by omega)) ?_;refine TotP.cond (fun _=>?_) (fun _=>vb);refine TotP.idx (Z0 (show 21<b.length by omega)) ?_;exact TotP.cond (fun _ => .ret (by simp)) (fun _=>vb)
structure OkP (l:List Z5):Prop where
 len:l.length≤30
 txt:∀ p∈l,p.Text.length≤maxLen
theorem Quq (k:Int) (l:List Z5) (h:OkP l):TotP (fun N=>Q6k N k l) (fun r=>r.1.length≤9000000000):=by
 unfold Q6k;exact TotP.cond (fun _ => .ret (by simp)) (fun _=>Qtv k l h.len h.txt _ rfl)
theorem Qve (k:Int) (l:List Z5) (h:OkP l):Any (fun N=>Jq N k l):=TotP.bind (Quq k l h) (fun _ _ => .ret trivial)
structure Qnq (p:Zj):Prop where
 l:Z30 p
 props:OkP p.Props
 wprops:OkP p.Will.Props
 topic:p.Topic.length≤2000
 payload:p.Payload.length≤2000
 client:p.Client.length≤2000
 user:p.User.length≤2000
 pass:p.Pass.length≤2000
 wtopic:p.Will.Topic.length≤2000
 wpayload:p.Will.Payload.length≤2000
 codes:p.Codes.length≤30
 filters:p.Filters.length≤30∧∀ f∈p.Filters,f.Topic.length≤2000
theorem ml2:2000≤maxLen:=iQ
section
variable {p:Zj} (h:Qnq p)
include h
end
end
end Go.Av
namespace Go.Av
noncomputable section
theorem Qln:∀ (l:List UInt8) (c:UInt8) (n:Nat),Qao l c n≤n+l.length
 | [],_,n=>Lh _
 | b::l,c,n=>by
  unfold Qao;split
  ·have:=Qln l c (n+1);simp only [Mj];omega
  have:=Qln l c n;simp only [Mj];omega
theorem Qmk:∀ (l:List UInt8) (c:UInt8) (i:Nat),Qk4 l c i = -1∨∃ k:Nat,Qk4 l c i=(k:Int)∧i≤k∧k<i+l.length
 | [],_,i => .inl rfl
 | b::l,c,i=>by
  unfold Qk4;split
  ·exact .inr ⟨i,rfl,Lh _,by simp⟩
  rcases Qmk l c (i+1) with h | ⟨k,h1,h2,h3⟩
  ·exact .inl h
  exact .inr ⟨k,h1,by omega,by simp only [Mj];omega⟩
def Zbc (s:List UInt8) (N n:Nat) (p:List UInt8×Int×List (List UInt8)):Option (List (List UInt8)):=U0 N s n p.1 p.2.1 p.2.2
end
end Go.Av
namespace Go.Av
noncomputable section
theorem ml7:70000≤maxLen:=iQ
section
variable {p:Zj} (h:Qnq p)
include h
end
end
end Go.Av
namespace Go.Av
noncomputable section
set_option maxHeartbeats 4000000
open Go.Proofs
theorem Zzf (x:Nat) (h:x≤9223372036854775807):wrap .i64 (x:Int)=x:=w64 _ (by omega)
theorem Qqa (N:Nat) (s:List UInt8) (j:Nat):Yk N s (j:Int)=some (if goes s j then (((at8 s j - 128:Nat):Int),true) else (0,false)):=by
 unfold Yk;rw [Gm]
 by_cases hj:j<s.length
 ·have hb:=Cg s[j];rw [Ab (show ¬ ((j:Int)≥(s.length:Int)) by omega),Ah,Z0 hj,Lf,Qn,Lf,Wc,Lf];have e:=Qcn hj
  by_cases h1:at8 s j<128
  ·rw [Ad (by omega),Ai,Ae (fun h=>by have:=h.2.1;omega)]
  rw [Ab (by omega),Ah]
  by_cases h2:at8 s j<192
  ·rw [Ab (by omega),Ah,Af ⟨hj,by omega,h2⟩,w64 ((s[j]).toNat:Int) (by omega),w64 _ (by omega)]
   grind
  rw [Ad (by omega),Ai,Ae (fun h=>h2 h.2.2)]
 rw [Ad (show ((j:Int)≥(s.length:Int)) by omega),Ai,Ae (fun h=>hj h.1)]
theorem Zct (N:Nat) (s:List UInt8) (i n x k:Nat) (hk:k<2) (hx:x<1099511627776) (hi:i≤4611686018427387904):Zs N s (i:Int) (n+1) (x:Int) (k:Int) =
  if goes s (i+k) then Zs N s (i:Int) n ((64 * x+(at8 s (i+k) - 128):Nat):Int) ((k+1:Nat):Int) else some (0,0):=by
 have hb:=Qdn s (i+k);rw [Zs,Qn,Ad (by omega),Ai,show wrap .i64 ((i:Int)+(k:Int))=((i+k:Nat):Int) by grind [w64],Qqa,Lf]
 exact bS
theorem Z8y (N:Nat) (s:List UInt8) (i n x:Nat):Zs N s (i:Int) (n+1) (x:Int) ((2:Nat):Int)=if 128≤x∧Qgr x then some ((x:Int),2) else some (0,0):=by
 grind [Zs,Qn,Wc,Gm,Uy,Qgr]
theorem Zak (N:Nat) (s:List UInt8) (i n x k:Nat) (hk:k<3) (hx:x<1099511627776) (hi:i≤4611686018427387904):Zt N s (i:Int) (n+1) (x:Int) (k:Int) =
  if goes s (i+k) then Zt N s (i:Int) n ((64 * x+(at8 s (i+k) - 128):Nat):Int) ((k+1:Nat):Int) else some (0,0):=by
 have hb:=Qdn s (i+k);rw [Zt,Qn,Ad (by omega),Ai,show wrap .i64 ((i:Int)+(k:Int))=((i+k:Nat):Int) by grind [w64],Qqa,Lf]
 exact bS
theorem Za0 (N:Nat) (s:List UInt8) (i n x:Nat):Zt N s (i:Int) (n+1) (x:Int) ((3:Nat):Int)=if 2048≤x∧Qgr x then some ((x:Int),3) else some (0,0):=by
 grind [Zt,Qn,Wc,Gm,Uy,Qgr]
theorem Z5q (N:Nat) (s:List UInt8) (i n x k:Nat) (hk:k<4) (hx:x<1099511627776) (hi:i≤4611686018427387904):Zu N s (i:Int) (n+1) (x:Int) (k:Int) =
  if goes s (i+k) then Zu N s (i:Int) n ((64 * x+(at8 s (i+k) - 128):Nat):Int) ((k+1:Nat):Int) else some (0,0):=by
 have hb:=Qdn s (i+k);rw [Zu,Qn,Ad (by omega),Ai,show wrap .i64 ((i:Int)+(k:Int))=((i+k:Nat):Int) by grind [w64],Qqa,Lf]
 exact bS
theorem Zac (N:Nat) (s:List UInt8) (i n x:Nat):Zu N s (i:Int) (n+1) (x:Int) ((4:Nat):Int)=if 65536≤x∧Qgr x then some ((x:Int),4) else some (0,0):=by
 rw [Zu,Qn,Ab (by omega),Ah,Qn,Wc,Gm,Uy]
 grind [Qgr]
def ptF (q:Nat×Nat):Int×Int:=if q.1=65533∧q.2=1 then (0,0) else ((q.1:Int),(q.2:Int))
theorem Qnn {c w:Nat} (h:¬ (c=65533∧w=1)):ptF (c,w)=((c:Int),(w:Int)):=Ae h
theorem Qab:ptF (65533,1)=(0,0):=Af ⟨rfl,rfl⟩
def ptR (s:List UInt8) (i:Nat):Int×Int:=ptF (Qa9 s i)
theorem Z14 (s:List UInt8) (i:Nat) (hi:i<s.length) (hs:s.length≤4611686018427387904) (M:Nat):Vx (M+5) s (i:Int)=some (ptR s i):=by
 have hb:=Qdn s i;have hb1:=Qdn s (i+1);have hb2:=Qdn s (i+(1+1));have e:=Qcn hi
 have hw:wrap .i64 ((s[i]).toNat:Int)=(at8 s i:Int):=by grind [Zzf]
 unfold Vx;rw [Z0 hi,Lf,hw];simp only [Qn,Gm];unfold ptR Qa9
 by_cases c1:at8 s i<128
 ·grind [Qnn]
 rw [Ab (show ¬ ((at8 s i:Int)<128) by omega),Ah,Ae c1]
 by_cases c2:at8 s i<192
 ·rw [Ab (show ¬ ((at8 s i:Int)≥192) by omega),Ah,Ab (show ¬ ((at8 s i:Int)≥224) by omega),Ah,Ab (show ¬ ((at8 s i:Int)≥240) by omega),Ah,
   Ae (by omega),Ae (by omega),Ae (by omega),Qab]
 rw [Ad (show ((at8 s i:Int)≥192) by omega),Ai]
 by_cases c3:at8 s i<224
 ·rw [Ad (show ((at8 s i:Int)<224) by omega),Ai,Ae (c:=224≤at8 s i∧_) (by omega),Ae (c:=240≤at8 s i∧_) (by omega)]
  have h0:wrap .i64 ((at8 s i:Int) - 192)=((at8 s i - 192:Nat):Int):=bS
  rw [h0,show (1:Int)=((1:Nat):Int) from rfl,Zct _ _ _ _ _ _ (by omega) (by omega) (by omega)]
  by_cases g1:goes s (i+1)
  ·rw [Af g1,show 1+1=2 from rfl,Z8y]
   grind [Qgr,Qnn,Qab]
  simp_all [Qab]
 rw [Ab (show ¬ ((at8 s i:Int)<224) by omega),Ah,Ad (show ((at8 s i:Int)≥224) by omega),Ai,Ae (c:=192≤at8 s i∧_) (by omega)]
 by_cases c5:at8 s i<240
 ·rw [Ad (show ((at8 s i:Int)<240) by omega),Ai,Ae (c:=240≤at8 s i∧_) (by omega)]
  have h0:wrap .i64 ((at8 s i:Int) - 224)=((at8 s i - 224:Nat):Int):=bS
  rw [h0,show (1:Int)=((1:Nat):Int) from rfl,Zak _ _ _ _ _ _ (by omega) (by omega) (by omega)]
  by_cases g1:goes s (i+1)
  ·have hg1:=g1.2;rw [Af g1,Zak _ _ _ _ _ _ (by omega) (by omega) (by omega)]
   by_cases g2:goes s (i+2)
   ·have hg2:=g2.2;rw [Af g2,show 1+1+1=3 from rfl,Za0]
    grind [Qnn,Qab]
   simp_all [Qab]
  simp_all [Qab]
 rw [Ab (show ¬ ((at8 s i:Int)<240) by omega),Ah,Ad (show ((at8 s i:Int)≥240) by omega),Ai,Ae (c:=224≤at8 s i∧_) (by omega)]
 by_cases c6:at8 s i<248
 ·rw [Ad (show ((at8 s i:Int)<248) by omega),Ai]
  have h0:wrap .i64 ((at8 s i:Int) - 240)=((at8 s i - 240:Nat):Int):=bS
  rw [h0,show (1:Int)=((1:Nat):Int) from rfl,Z5q _ _ _ _ _ _ (by omega) (by omega) (by omega)]
  by_cases g1:goes s (i+1)
  ·have hg1:=g1.2;rw [Af g1,Z5q _ _ _ _ _ _ (by omega) (by omega) (by omega)]
   by_cases g2:goes s (i+2)
   ·have hg2:=g2.2;rw [Af g2,Z5q _ _ _ _ _ _ (by omega) (by omega) (by omega)]
    by_cases g3:goes s (i+3)
    ·have hg3:=g3.2;rw [Af g3,show 1+1+1+1=4 from rfl,Zac]
     grind [Qnn,Qab]
    simp_all [Qab]
   simp_all [Qab]
  simp_all [Qab]
 grind [Qab]
theorem Qxo (s:List UInt8) (i:Nat) (hi:i<s.length) (hs:s.length≤4611686018427387904):Tot (fun N=>Vx N s (i:Int)) (ptR s i):=
 ⟨5,fun N hN=>by obtain ⟨M,rfl⟩:∃ M,N=M+5:=⟨N - 5,by omega⟩<;>simp_all [Z14]⟩
theorem Z1a (s:List UInt8) (hs:s.length≤4611686018427387904):Tot (fun N=>Q1t N s) (Z7z (Qq3 s 0)):=by
 refine TotP.tot ?_;refine Qar (L:=fun N n (p:Int)=>Wk N s n p) (fun p=>∃ i:Nat,p=(i:Int)∧i≤s.length∧Qq3 s i=Qq3 s 0) (fun p=>s.length - p.toNat) ?_ 0 ⟨0,rfl,Lk _,rfl⟩
 rintro p ⟨i,rfl,hi,hb0⟩
 show Stp _ _ _ (fun N n=>cond (Q0 .lss (i:Int) (s.length:Int)) _ _);rw [Qn];refine Stp.cond (fun h=>?_) (fun h=>?_)
 ·have hl:i<s.length:=by simp_all
  have hw:=Qtp s i hl
  have hb:Qq3 s i=(if (Qa9 s i).1=0∨Qvn s i then some i else Qq3 s (i+(Qa9 s i).2)):=by grind [Qq3]
  refine Stp.bind (V:=(· = ptR s i)) ⟨_,rfl,Qxo s i hl hs⟩ ?_
  rintro v rfl
  unfold ptR
  by_cases hn:Qvn s i
  ·rw [Af (.inr hn)] at hb;unfold Qvn at hn;rw [hn,Qab];refine Stp.ret ?_;rw [← hb0,hb];rfl
  have hp:ptF (Qa9 s i)=(((Qa9 s i).1:Int),((Qa9 s i).2:Int)):=Qnn (c:=(Qa9 s i).1) (w:=(Qa9 s i).2) (fun h=>hn (by grind [Qvn]));rw [hp,Qx,Qx];refine Stp.cond (fun h2=>by simp_all) (fun _=>?_);refine Stp.cond (fun h0=>?_) (fun h0=>?_)
  ·have h0:(Qa9 s i).1=0:=by simp_all
   refine Stp.ret ?_;rw [← hb0,hb,Af (.inl h0)];rfl
  have h0:(Qa9 s i).1≠0:=by simp_all
  have e:wrap .i64 ((i:Int)+((Qa9 s i).2:Int))=((i+(Qa9 s i).2:Nat):Int):=bS
  show Stp _ _ _ (fun N n=>Wk N s n (wrap .i64 ((i:Int)+((Qa9 s i).2:Int))));rw [e];refine Stp.go _ ⟨⟨_,rfl,hw.2.1,?_⟩,by omega⟩
  simp_all
 have hl:¬ i<s.length:=by simp_all
 refine Stp.ret ?_;rw [← hb0,Qq3,dif_neg hl];rfl
theorem Z5f (o:Option Nat):decide (Z7z o<0)=o.isNone:=by
 cases o<;>grind [Z7z]
theorem Qbs (s:List UInt8):Tot (fun N=>X4 N s) (Q8z s):=by
 refine TotP.tot ?_;show TotP (fun N=>cond (Q0 .leq (s.length:Int) 65535) _ _) _;rw [Uy];refine TotP.cond (fun h=>?_) (fun h=>?_)
 ·have h:s.length≤65535:=by grind
  refine TotP.bindE (Z1a s (by omega)) (.ret ?_)<;>simp_all [Qn,Z5f,Q8z]
 exact hI
theorem Qlk (s:List UInt8) (hs:s.length≤maxLen) (c:Nat):Tot (fun N=>Xd N s (c:Int)) (s.any fun b=>b.toNat == c):=by
 have hm:=Q7s;refine TotP.tot ?_;refine Q6t (L:=fun N n i=>Vg N s (c:Int) n i) s.length (fun i=>∀ j (h:j<s.length),j<i->(s[j]).toNat≠c) (fun i hi hj=>?_) (fun hj=>?_) (fun j _ hj=>by omega)
 ·show Stp _ _ _ (fun N n=>cond (Q0 .lss (i:Int) (s.length:Int)) _ _);refine Stp.cond (fun _=>?_) (fun h=>by simp_all [Qn]);refine Stp.idx (Z0 hi) ?_;rw [Qx];refine Stp.cond (fun h=>?_) (fun h=>?_)
  ·refine Stp.ret (Eq.symm ?_)<;>grind
  rw [w64 _ (by omega)];refine Stp.go _ ⟨by omega,fun j hj2 hji=>?_⟩<;>grind
 show Stp _ _ _ (fun N n=>cond (Q0 .lss (s.length:Int) (s.length:Int)) _ _);refine Stp.cond (fun h=>by simp_all [Qn]) (fun _=>?_);refine Stp.ret (Eq.symm ?_)<;>grind [List.getElem_of_mem]
theorem Qxf (s:List UInt8):Qud s=((s.any fun b=>b.toNat == 43)||(s.any fun b=>b.toNat == 35)):=by
 grind [Qud]
theorem Q7j (s:List UInt8) (hs:s.length≤maxLen):Tot (fun N=>Zn N s) (Q0j s):=by
 refine TotP.tot ?_;show TotP (fun N=>cond (Q10 .neq s []) _ _) _
 have e:Q10 .neq s []=decide (s ≠ []):=by cases s<;>rfl
 rw [e];unfold Q0j;rw [Qxf];refine TotP.cond (fun h=>?_) (fun h => .ret (by simp_all));rw [h];refine TotP.bindE (Qbs s) ?_;refine TotP.cond (fun h=>?_) (fun h => .ret (by simp_all));rw [h];refine TotP.bindE (Qlk s hs 43) ?_;refine TotP.cond (fun h=>?_) (fun h => .ret ?_)
 ·refine TotP.bindE (Qlk s hs 35) (.ret ?_)<;>simp_all
 grind
end
end Go.Av
namespace Go.Av
noncomputable section
section
variable {p:Zj} (h:Qnq p)
include h
end
end
end Go.Av
namespace Go.Av
noncomputable section
section
variable {p:Zj} (h:Qnq p)
include h
end
section
variable {p:Zj} (h:Qnq p)
include h
end
end
end Go.Av
namespace Go.Av
noncomputable section
structure Cd (B:Nat) (c:Q3):Prop where
 d:c.do'=1∨c.do'=2
 nm:c.m.Name.length≤70000
 da:c.m.Data.length≤70000
 ou:c.out.length≤B
theorem Cd.mono {B C:Nat} {c:Q3} (h:Cd B c) (hB:B≤C):Cd C c:=⟨h.d,h.nm,h.da,Ma h.ou hB⟩
theorem Cd.zero {B:Nat} {c:Q3} (h:Cd B c):Q0 .eql c.do' 0=false:=by
 have:=h.d;rw [Qx];exact Ab (by omega)
section
variable {B:Nat} {c:Q3} (h:Cd B c) (hB:B≤10000000)
include h hB
end
section
variable {B:Nat} {c:Q3} (h:Cd B c) (hB:B≤1000000)
include h hB
attribute [local irreducible] X8 Xv Wh Xk Ya Y1 Zd Zb Qm Xu
end
section
variable {B:Nat} {c:Q3} (h:Cd B c) (hB:B≤1000)
include h hB
attribute [local irreducible] X8 Xv Wh Xk Ya Y1 Zd Zb Qm Xu Ue W6 Vd
end
structure OkM (m:Xl):Prop where
 nm:m.Name.length≤70000
 da:m.Data.length≤70000
section
variable {m:Xl} (h:OkM m)
include h
end
section
variable {m:Xl} (h:OkM m)
include h
end
structure Qvo (d:Qb):Prop where
 hops:d.Hops.length≤30
 node:∀ x∈d.Hops,x.Node.length≤300
 msg:OkM d.Msg
section
variable {d:Qb} (h:Qvo d) (l:Yq)
include h
end
end
end Go.Av
namespace Go.Av
noncomputable section
set_option maxHeartbeats 4000000
theorem Qwm (p:Zj) (h1:p.Filters.length≤maxLen) (h2:p.Props.length≤maxLen) (h3:p.Will.Props.length≤maxLen):TotP (fun N=>Jl N p) (fun v=>v=true->Qnq p):=by
 have hm:=Q7s
 have h30:300≤maxLen:=gI
 have tail:(p.Filters.length≤30->∀ f∈p.Filters,f.Topic.length≤2000)->TotP (fun N=>cond (Q0 .leq (p.Topic.length:Int) 2000) (cond (Q0 .leq (p.Payload.length:Int) 2000) (cond (Q0 .leq (p.Client.length:Int) 2000) (cond (Q0 .leq (p.User.length:Int) 2000) (cond (Q0 .leq (p.Pass.length:Int) 2000)
  (cond (Q0 .leq (p.Will.Topic.length:Int) 2000) (cond (Q0 .leq (p.Will.Payload.length:Int) 2000) (cond (Q0 .leq ((Q7 (cI .i64) p.Codes).length:Int) 30) (cond (Q0 .leq (p.Filters.length:Int) 30)
  ((Zr N p.Props).bind fun v26=>cond v26 ((Zr N p.Will.Props).bind fun v29=>some v29) (some false)) (some false)) (some false)) (some false)) (some false)) (some false)) (some false)) (some false)) (some false)) (some false)) (fun v=>v=true->Qnq p):=by
  intro hf;rw [Q6]
  iterate 9 refine TotP.cond (fun _=>?_) (fun _ => .ret (fun h=>nomatch h))
  rename_i a1 a2 a3 a4 a5 a6 a7 a8 a9;rw [Uy] at a1 a2 a3 a4 a5 a6 a7 a8 a9;have a1:=Aa a1;have a2:=Aa a2;have a3:=Aa a3;have a4:=Aa a4;have a5:=Aa a5;have a6:=Aa a6;have a7:=Aa a7;have a8:=Aa a8;have a9:=Aa a9;refine TotP.bind (Qht _ h2) (fun v hv=>TotP.cond (fun hv1=>?_) (fun _ => .ret (fun h=>nomatch h)));refine TotP.bind (Qht _ h3) (fun w hw => .ret (fun hw1=>?_));have g1:=hv hv1;have g2:=hw hw1;exact ⟨⟨by omega,by omega,by omega,by omega⟩,⟨g1.1,fun x hx=>Ma (g1.2 x hx).1 h30⟩,⟨g2.1,fun x hx=>Ma (g2.2 x hx).1 h30⟩,by omega,by omega,by omega,by omega,by omega,by omega,by omega,by omega,by omega,hf (by omega)⟩
 refine Q6t (L:=fun N n s=>Yr N p n s) p.Filters.length (fun i=>∀ j (h:j<p.Filters.length),j<i->(p.Filters[j]).Topic.length≤2000) (fun i hi hj=>?_) (fun hj=>?_) (fun j _ hj=>by omega)
 ·show Stp _ _ _ (fun N n=>cond (Q0 .lss (i:Int) ((Q7 Yp.cells p.Filters).length:Int)) _ _);rw [Q6,Qn];refine Stp.cond (fun _=>?_) (fun h=>by simp_all);refine Stp.cond (fun _=>?_) (fun h=>Stp.fin (tail (fun hc=>?_)))
  ·refine Stp.idx (Z0 hi) ?_;rw [Wc];refine Stp.cond (fun _=>Stp.ret (fun h=>nomatch h)) (fun h1=>?_);have h1:=Ac h1;rw [w64 _ (by omega)];refine Stp.go (L:=fun N n s=>Yr N p n s) _ ⟨by omega,fun j hj' hji=>?_⟩
   grind
  grind [Qn]
 show Stp _ _ _ (fun N n=>cond (Q0 .lss (p.Filters.length:Int) ((Q7 Yp.cells p.Filters).length:Int)) _ _)
 grind [Q6,Qn,Stp.fin,List.getElem_of_mem]
theorem Qvv (d:Qb):TotP (fun N=>Ww N d) (fun v=>v=true->Qvo d):=by
 refine TotP.cond (fun _ => .ret (fun h=>nomatch h)) (fun h0=>?_);rw [Q6,Wc] at h0;have h0:=Ac h0;refine TotP.bind (V:=fun v=>v=true->OkM d.Msg) ?_ (fun v hv=>?_)
 ·show TotP (fun N=>cond (Q0 .leq (d.Msg.Name.length:Int) 70000) _ _) _;rw [Uy,Uy];refine TotP.cond (fun h1 => .ret (fun h2=>?_)) (fun _ => .ret (fun h=>nomatch h));have h1:=Aa h1;have h2:=Aa h2;exact ⟨by omega,by omega⟩
 refine TotP.cond (fun _ => .ret (fun h=>nomatch h)) (fun hn=>?_);have hM:=hv (by simp_all);refine Q6t (L:=fun N n s=>Y7 N d n s) d.Hops.length (fun i=>∀ j (h:j<d.Hops.length),j<i->(d.Hops[j]).Node.length≤300) (fun i hi hj=>?_) (fun hj=>?_) (fun j _ hj=>by omega)
 ·show Stp _ _ _ (fun N n=>cond (Q0 .lss (i:Int) ((Q7 Vc.cells d.Hops).length:Int)) _ _);rw [Q6,Qn];refine Stp.cond (fun _=>?_) (fun h=>by simp_all);refine Stp.idx (Z0 hi) ?_;rw [Wc];refine Stp.cond (fun _=>Stp.ret (fun h=>nomatch h)) (fun h1=>?_);have h1:=Ac h1;rw [w64 _ (by omega)];refine Stp.go (L:=fun N n s=>Y7 N d n s) _ ⟨by omega,fun j hj' hji=>?_⟩
  grind
 show Stp _ _ _ (fun N n=>cond (Q0 .lss (d.Hops.length:Int) ((Q7 Vc.cells d.Hops).length:Int)) _ _);rw [Q6,Qn];refine Stp.cond (fun h=>by simp_all) (fun _=>Stp.ret (fun _=>⟨by omega,fun x hx=>?_,hM⟩))
 exact fH
theorem Z1w (f:X9) (hv:∀ x∈f.Values,OkV x):TotP (fun N=>Xq N f) (fun v=>v=true->FB f):=by
 obtain ⟨r,_,N0,h⟩:=Qx6 f;refine ⟨r,fun hr=>?_,N0,h⟩;obtain ⟨b,h1,h2⟩:=Qqv (N:=max N0 800000000) (by omega) f
 grind [Z29]
structure LE (e:Qg):Prop where
 topic:e.Topic.length≤2000
 payload:e.Payload.length≤2000
 props:OkP e.Props
 pk:Qnq e.Packet
 dg:Qvo ⟨e.Hops,e.Msg⟩
 fb:FB e.Frame
theorem Z0i (e:Qg) (h:OkE e) (hv:∀ x∈e.Frame.Values,OkV x):TotP (fun N=>Jw N e) (fun v=>v=true->LE e):=by
 have h30:300≤maxLen:=gI
 refine TotP.cond (fun h1=>?_) (fun _ => .ret (fun h=>nomatch h));refine TotP.cond (fun h2=>?_) (fun _ => .ret (fun h=>nomatch h));rw [Uy] at h1 h2;have h1:=Aa h1;have h2:=Aa h2;refine TotP.bind (Qht _ h.props) (fun v hv1=>?_);refine TotP.cond (fun h3=>?_) (fun _ => .ret (fun h=>nomatch h));refine TotP.bind (Qwm _ h.filters h.pprops h.wprops) (fun u hu=>?_);refine TotP.cond (fun hu1=>?_) (fun _ => .ret (fun h=>nomatch h));refine TotP.bind (Qvv _) (fun w hw=>?_);refine TotP.cond (fun h4=>?_) (fun _ => .ret (fun h=>nomatch h));refine TotP.bind (Z1w _ hv) (fun x hx => .ret (fun h5=>?_));have g:=hv1 h3;exact ⟨by omega,by omega,⟨g.1,fun x hx=>Ma (g.2 x hx).1 h30⟩,hu hu1,hw h4,hx h5⟩
end
end Go.Av
namespace Go.Av
noncomputable section
set_option maxHeartbeats 4000000
theorem Zan (a b:Qg):(((a.Msg.Type':Int) == b.Msg.Type')&&(((a.Msg.Flags.Dup:Bool) == b.Msg.Flags.Dup)&&(((a.Msg.Flags.QoS:Int) == b.Msg.Flags.QoS)&&(((a.Msg.Flags.Retain:Bool) == b.Msg.Flags.Retain)&&(((a.Msg.Flags.Will:Bool) == b.Msg.Flags.Will)&&(((a.Msg.Flags.Clean:Bool) == b.Msg.Flags.Clean)&&(((a.Msg.Flags.Type':Int) == b.Msg.Flags.Type')&&(((a.Msg.Gateway:Int) == b.Msg.Gateway)&&(((a.Msg.Radius:Int) == b.Msg.Radius)&&(((a.Msg.Time:Int) == b.Msg.Time)&&(((a.Msg.Timed:Bool) == b.Msg.Timed)&&(((a.Msg.TopicID:Int) == b.Msg.TopicID)&&(((a.Msg.MsgID:Int) == b.Msg.MsgID)&&(((a.Msg.Code:Int) == b.Msg.Code)&&(((a.Msg.Name:List UInt8) == b.Msg.Name)&&(((a.Msg.Data:List UInt8) == b.Msg.Data)&&true))))))))))))))))=true↔a.Msg=b.Msg:=by
 generalize a.Msg=m;generalize b.Msg=n;obtain ⟨a1,⟨f1,f2,f3,f4,f5,f6⟩,a2,a3,a4,a5,a6,a7,a8,a9,a10⟩:=m;obtain ⟨b1,⟨g1,g2,g3,g4,g5,g6⟩,b2,b3,b4,b5,b6,b7,b8,b9,b10⟩:=n
 grind
theorem Zby {a b:Qg} (h0:a.Proto=b.Proto) (h1:a.Kind=b.Kind) (h2:a.Topic=b.Topic) (h3:a.Payload=b.Payload) (h4:a.QoS=b.QoS) (h5:a.Retain=b.Retain) (h6:a.Dup=b.Dup) (h7:a.ID=b.ID) (h8:a.Props=b.Props) (h9:a.Type'=b.Type') (h10:a.Hops=b.Hops) (h11:a.Channel=b.Channel) (h12:a.Packet=b.Packet) (h13:a.Msg=b.Msg) (h14:a.Frame=b.Frame):a=b:=i4
structure Zbq (a:Qg):Prop where
 props:a.Props.length≤maxLen
 hops:a.Hops.length≤maxLen
 pk:Z30 a.Packet
 fr:Q4.szs a.Frame.Values<700000000
theorem Qmu (a b:Qg) (h:Zbq a):TotP (fun N=>Q1o N a b) (fun v=>v=true↔a=b):=by
 unfold Q1o;simp only [Ym,Q60];refine TotP.cond (fun g => .ret ⟨fun e=>absurd e Li,fun e=>absurd g (by simp_all)⟩) (fun g=>?_)
 have e0:a.Proto=b.Proto:=by simp_all
 clear g;refine TotP.cond (fun g => .ret ⟨fun e=>absurd e Li,fun e=>absurd g (by simp_all)⟩) (fun g=>?_)
 have e1:a.Kind=b.Kind:=by simp_all
 clear g;refine TotP.cond (fun g => .ret ⟨fun e=>absurd e Li,fun e=>absurd g (by simp_all)⟩) (fun g=>?_)
 have e2:a.Topic=b.Topic:=by simp_all
 clear g;refine TotP.cond (fun g => .ret ⟨fun e=>absurd e Li,fun e=>absurd g (by simp_all)⟩) (fun g=>?_)
 have e3:a.Payload=b.Payload:=by simp_all
 clear g;refine TotP.cond (fun g => .ret ⟨fun e=>absurd e Li,fun e=>absurd g (by simp_all)⟩) (fun g=>?_)
 have e4:a.QoS=b.QoS:=by simp_all
 clear g;refine TotP.cond (fun g => .ret ⟨fun e=>absurd e Li,fun e=>absurd g (by simp_all)⟩) (fun g=>?_)
 have e5:a.Retain=b.Retain:=by simp_all
 clear g;refine TotP.cond (fun g => .ret ⟨fun e=>absurd e Li,fun e=>absurd g (by simp_all)⟩) (fun g=>?_)
 have e6:a.Dup=b.Dup:=by simp_all
 clear g;refine TotP.cond (fun g => .ret ⟨fun e=>absurd e Li,fun e=>absurd g (by simp_all)⟩) (fun g=>?_)
 have e7:a.ID=b.ID:=by simp_all
 clear g;refine TotP.cond (fun g => .ret ⟨fun e=>absurd e Li,fun e=>absurd g (by simp_all)⟩) (fun g=>?_)
 have e8:a.Type'=b.Type':=by simp_all
 clear g;refine TotP.cond (fun g => .ret ⟨fun e=>absurd e Li,fun e=>absurd g (by simp_all)⟩) (fun g=>?_)
 have e9:a.Channel=b.Channel:=by simp_all
 clear g;refine TotP.bind (Qp8 _ _ h.props) (fun v1 g1=>?_);refine TotP.cond (fun c1=>?_) (fun c1 => .ret ⟨fun e=>absurd e Li,fun e=>absurd (g1.2 (by rw [e])) (by simp_all)⟩);refine TotP.bind (Qqo _ _ h.hops) (fun v2 g2=>?_);refine TotP.cond (fun c2=>?_) (fun c2 => .ret ⟨fun e=>absurd e Li,fun e=>absurd (g2.2 (by rw [e])) (by simp_all)⟩);refine TotP.bind (Qfb _ _ h.pk) (fun v3 g3=>?_);refine TotP.cond (fun c3=>?_) (fun c3 => .ret ⟨fun e=>absurd e Li,fun e=>absurd (g3.2 (by rw [e])) (by simp_all)⟩);refine TotP.cond (fun c4=>?_) (fun c4 => .ret ⟨fun e=>absurd e Li,fun e=>absurd ((Zan a b).2 (by rw [e])) (by simp_all)⟩);refine TotP.bind (f:=fun N=>Gv N a.Frame b.Frame) (V:=fun v=>v=decide (a.Frame=b.Frame)) ⟨_,rfl,800000000,fun N hN=>Qp5 hN _ _ h.fr⟩ (fun v g => .ret ?_)
 grind [Zan,Zby]
structure PubT (e:Qg) (c t b:Bool):Prop where
 known:e.Proto=1∨e.Proto=2∨e.Proto=3∨e.Proto=4
 kind:e.Kind=1
 qos:(0≤e.QoS∧e.QoS≤2)∨(e.Proto=3∧e.QoS = -1)
 id:0≤e.ID∧e.ID≤65535
 cid:c=decide (e.ID≠0)
 dup:e.Dup=true->c=true∨e.Proto=3
 props:0<e.Props.length->e.Proto=2
 ty:e.Proto=3->t=true
 ty2:e.Proto≠3->e.Type'=0∧e.Hops.length=0
 ch:0≤e.Channel∧e.Channel≤65535
 ch4:e.Channel≠0->e.Proto=4
 bare:b=true
section
variable {N:Nat} {e:Qg} {t b:Bool} {v:Int} (hn:Wg N e.Topic=some true) (ht:Q1p N e=some t) (hb:Q1j N e=some b) (hv:Jq N 3 e.Props=some v)
include hn ht hb hv
end
end
end Go.Av
namespace Go.Av
noncomputable section
set_option maxHeartbeats 4000000
theorem Qb3 (a b:List Z5) (ha:a.length≤maxLen):TotP (fun N=>Vb N a b) (fun v=>v=true↔a=b):=by
 unfold Vb;rw [Q6,Q6,Ym];refine TotP.cond (fun h => .ret ⟨fun h=>(by cases h),fun e=>?_⟩) (fun h=>?_)
 ·simp_all
 have h:=Ac h
 have hab:a.length=b.length:=by omega
 refine Qdh (L:=fun N n i=>V1 N a b n i) (eq:=fun x y=>((x.ID:Int) == y.ID)&&(((x.N':Int) == y.N')&&(((x.Text:List UInt8) == y.Text)&&(((x.Value:List UInt8) == y.Value)&&true)))) (fun _ _=>Z66) hab ha (fun N n i h h'=>?_) (fun N n=>?_)
 ·exact eo
 exact db
theorem Qqq (a b:List Vc) (ha:a.length≤maxLen):TotP (fun N=>Gi N a b) (fun v=>v=true↔a=b):=by
 unfold Gi;rw [Q6,Q6,Ym];refine TotP.cond (fun h => .ret ⟨fun h=>(by cases h),fun e=>?_⟩) (fun h=>?_)
 ·simp_all
 have h:=Ac h
 have hab:a.length=b.length:=by omega
 refine Qdh (L:=fun N n i=>V5 N a b n i) (eq:=fun x y=>((x.Radius:Int) == y.Radius)&&(((x.Node:List UInt8) == y.Node)&&true)) (fun _ _=>Zj8) hab ha (fun N n i h h'=>?_) (fun N n=>?_)
 ·exact en
 exact fw
theorem Qjv (a b:List Yp) (ha:a.length≤maxLen):TotP (fun N=>Ul N a b) (fun v=>v=true↔a=b):=by
 unfold Ul;rw [Q6,Q6,Ym];refine TotP.cond (fun h => .ret ⟨fun h=>(by cases h),fun e=>?_⟩) (fun h=>?_)
 ·simp_all
 have h:=Ac h
 have hab:a.length=b.length:=by omega
 refine Qdh (L:=fun N n i=>Xy N a b n i) (eq:=fun x y=>((x.Topic:List UInt8) == y.Topic)&&(((x.QoS:Int) == y.QoS)&&(((x.NoLocal:Bool) == y.NoLocal)&&(((x.AsPublished:Bool) == y.AsPublished)&&(((x.Handling:Int) == y.Handling)&&true))))) (fun _ _=>Qxy) hab ha (fun N n i h h'=>?_) (fun N n=>?_)
 ·show cond (Q0 .lss (i:Int) ((Q7 Yp.cells a).length:Int)) ((idx a (i:Int)).bind _) _=_
  simp_all [Q6,Qn,Z0]
 exact fx
theorem Qqd (a b:List Int) (ha:a.length≤maxLen):TotP (fun N=>Ge N a b) (fun v=>v=true↔a=b):=by
 unfold Ge;rw [Q6,Q6,Ym];refine TotP.cond (fun h => .ret ⟨fun h=>(by cases h),fun e=>?_⟩) (fun h=>?_)
 ·simp_all
 have h:=Ac h
 have hab:a.length=b.length:=by omega
 refine Qdh (L:=fun N n i=>V2 N a b n i) (eq:=fun x y=>Q0 .eql x y) (fun x y=>by simp) hab ha (fun N n i h h'=>?_) (fun N n=>?_)
 ·show cond (Q0 .lss (i:Int) ((Q7 (cI .i64) a).length:Int)) ((idx a (i:Int)).bind _) _=_
  simp_all [Q6,Qn,Z0,Ym,Qx]
 exact fl
theorem Qfd (a b:Zj) (h:Z30 a):TotP (fun N=>Uu N a b) (fun v=>v=true↔a=b):=by
 unfold Uu;simp only [Ym,Q60];refine TotP.cond (fun g => .ret ⟨fun e=>absurd e Li,fun e=>absurd g (by simp_all)⟩) (fun g=>?_)
 have e0:a.Will.Topic=b.Will.Topic:=by simp_all
 clear g;refine TotP.cond (fun g => .ret ⟨fun e=>absurd e Li,fun e=>absurd g (by simp_all)⟩) (fun g=>?_)
 have e1:a.Will.Payload=b.Will.Payload:=by simp_all
 clear g;refine TotP.cond (fun g => .ret ⟨fun e=>absurd e Li,fun e=>absurd g (by simp_all)⟩) (fun g=>?_)
 have e2:a.Will.QoS=b.Will.QoS:=by simp_all
 clear g;refine TotP.cond (fun g => .ret ⟨fun e=>absurd e Li,fun e=>absurd g (by simp_all)⟩) (fun g=>?_)
 have e3:a.Will.Retain=b.Will.Retain:=by simp_all
 clear g;refine TotP.bind (Qb3 _ _ h.wprops) (fun v hv=>?_);refine TotP.cond (fun g => .ret ⟨fun e=>absurd e Li,fun e=>absurd (hv.2 (by rw [e])) (by simp_all)⟩) (fun g=>?_);have e4:a.Will.Props=b.Will.Props:=hv.1 (by simp_all);clear g hv;refine TotP.cond (fun g => .ret ⟨fun e=>absurd e Li,fun e=>absurd g (by simp_all)⟩) (fun g=>?_)
 have e5:a.Kind=b.Kind:=by simp_all
 clear g;refine TotP.cond (fun g => .ret ⟨fun e=>absurd e Li,fun e=>absurd g (by simp_all)⟩) (fun g=>?_)
 have e6:a.Dup=b.Dup:=by simp_all
 clear g;refine TotP.cond (fun g => .ret ⟨fun e=>absurd e Li,fun e=>absurd g (by simp_all)⟩) (fun g=>?_)
 have e7:a.Retain=b.Retain:=by simp_all
 clear g;refine TotP.cond (fun g => .ret ⟨fun e=>absurd e Li,fun e=>absurd g (by simp_all)⟩) (fun g=>?_)
 have e8:a.QoS=b.QoS:=by simp_all
 clear g;refine TotP.cond (fun g => .ret ⟨fun e=>absurd e Li,fun e=>absurd g (by simp_all)⟩) (fun g=>?_)
 have e9:a.ID=b.ID:=by simp_all
 clear g;refine TotP.cond (fun g => .ret ⟨fun e=>absurd e Li,fun e=>absurd g (by simp_all)⟩) (fun g=>?_)
 have e10:a.Topic=b.Topic:=by simp_all
 clear g;refine TotP.cond (fun g => .ret ⟨fun e=>absurd e Li,fun e=>absurd g (by simp_all)⟩) (fun g=>?_)
 have e11:a.Payload=b.Payload:=by simp_all
 clear g;refine TotP.cond (fun g => .ret ⟨fun e=>absurd e Li,fun e=>absurd g (by simp_all)⟩) (fun g=>?_)
 have e12:a.Clean=b.Clean:=by simp_all
 clear g;refine TotP.cond (fun g => .ret ⟨fun e=>absurd e Li,fun e=>absurd g (by simp_all)⟩) (fun g=>?_)
 have e13:a.KeepAlive=b.KeepAlive:=by simp_all
 clear g;refine TotP.cond (fun g => .ret ⟨fun e=>absurd e Li,fun e=>absurd g (by simp_all)⟩) (fun g=>?_)
 have e14:a.Client=b.Client:=by simp_all
 clear g;refine TotP.cond (fun g => .ret ⟨fun e=>absurd e Li,fun e=>absurd g (by simp_all)⟩) (fun g=>?_)
 have e15:a.HasUser=b.HasUser:=by simp_all
 clear g;refine TotP.cond (fun g => .ret ⟨fun e=>absurd e Li,fun e=>absurd g (by simp_all)⟩) (fun g=>?_)
 have e16:a.User=b.User:=by simp_all
 clear g;refine TotP.cond (fun g => .ret ⟨fun e=>absurd e Li,fun e=>absurd g (by simp_all)⟩) (fun g=>?_)
 have e17:a.HasPass=b.HasPass:=by simp_all
 clear g;refine TotP.cond (fun g => .ret ⟨fun e=>absurd e Li,fun e=>absurd g (by simp_all)⟩) (fun g=>?_)
 have e18:a.Pass=b.Pass:=by simp_all
 clear g;refine TotP.cond (fun g => .ret ⟨fun e=>absurd e Li,fun e=>absurd g (by simp_all)⟩) (fun g=>?_)
 have e19:a.HasWill=b.HasWill:=by simp_all
 clear g;refine TotP.cond (fun g => .ret ⟨fun e=>absurd e Li,fun e=>absurd g (by simp_all)⟩) (fun g=>?_)
 have e20:a.Session=b.Session:=by simp_all
 clear g;refine TotP.cond (fun g => .ret ⟨fun e=>absurd e Li,fun e=>absurd g (by simp_all)⟩) (fun g=>?_)
 have e21:a.Code=b.Code:=by simp_all
 clear g;refine TotP.bind (Qqd _ _ h.codes) (fun v hv=>?_);refine TotP.cond (fun g=>?_) (fun g => .ret ⟨fun e=>absurd e Li,fun e=>absurd (hv.2 (by rw [e])) (by simp_all)⟩);have e22:a.Codes=b.Codes:=hv.1 g;clear g hv;refine TotP.bind (Qjv _ _ h.filters) (fun v hv=>?_);refine TotP.cond (fun g=>?_) (fun g => .ret ⟨fun e=>absurd e Li,fun e=>absurd (hv.2 (by rw [e])) (by simp_all)⟩);have e23:a.Filters=b.Filters:=hv.1 g;clear g hv;refine TotP.bind (Qb3 _ _ h.props) (fun v hv => .ret ⟨fun g=>?_,fun e=>hv.2 (by rw [e])⟩);have el:a.Props=b.Props:=hv.1 g;obtain ⟨a0,a1,a2,a3,a4,a5,a6,a7,a8,a9,a10,a11,a12,a13,a14,⟨w0,w1,w2,w3,w4⟩,a16,a17,a18,a19,a20⟩:=a
 simp_all
theorem Qub (x y:Xl):(((x.Type':Int) == y.Type')&&(((x.Flags.Dup:Bool) == y.Flags.Dup)&&(((x.Flags.QoS:Int) == y.Flags.QoS)&&(((x.Flags.Retain:Bool) == y.Flags.Retain)&&(((x.Flags.Will:Bool) == y.Flags.Will)&&(((x.Flags.Clean:Bool) == y.Flags.Clean)&&(((x.Flags.Type':Int) == y.Flags.Type')&&(((x.Gateway:Int) == y.Gateway)&&(((x.Radius:Int) == y.Radius)&&(((x.Time:Int) == y.Time)&&(((x.Timed:Bool) == y.Timed)&&(((x.TopicID:Int) == y.TopicID)&&(((x.MsgID:Int) == y.MsgID)&&(((x.Code:Int) == y.Code)&&(((x.Name:List UInt8) == y.Name)&&(((x.Data:List UInt8) == y.Data)&&true))))))))))))))))=true↔x=y:=by
 obtain ⟨a,⟨b,c,d,e,f,g⟩,h,i,j,k,l,m,n,o,p⟩:=x;obtain ⟨a',⟨b',c',d',e',f',g'⟩,h',i',j',k',l',m',n',o',p'⟩:=y
 grind
theorem Qd9 (a b:Qg) (h:Zbq a):TotP (fun N=>Xp N a b) (fun v=>v=true↔a=b):=by
 unfold Xp;simp only [Qx,Q08];refine TotP.cond (fun g=>?_) (fun g => .ret ⟨fun e=>absurd e Li,fun e=>absurd g (by simp_all)⟩)
 have e24:a.Proto=b.Proto:=by simp_all
 clear g;refine TotP.cond (fun g=>?_) (fun g => .ret ⟨fun e=>absurd e Li,fun e=>absurd g (by simp_all)⟩)
 have e25:a.Kind=b.Kind:=by simp_all
 clear g;refine TotP.cond (fun g=>?_) (fun g => .ret ⟨fun e=>absurd e Li,fun e=>absurd g (by simp_all)⟩)
 have e26:a.Topic=b.Topic:=by simp_all
 clear g;refine TotP.cond (fun g=>?_) (fun g => .ret ⟨fun e=>absurd e Li,fun e=>absurd g (by simp_all)⟩)
 have e27:a.Payload=b.Payload:=by simp_all
 clear g;refine TotP.cond (fun g=>?_) (fun g => .ret ⟨fun e=>absurd e Li,fun e=>absurd g (by simp_all)⟩)
 have e28:a.QoS=b.QoS:=by simp_all
 clear g;refine TotP.cond (fun g=>?_) (fun g => .ret ⟨fun e=>absurd e Li,fun e=>absurd g (by simp_all)⟩)
 have e29:a.Retain=b.Retain:=by simp_all
 clear g;refine TotP.cond (fun g=>?_) (fun g => .ret ⟨fun e=>absurd e Li,fun e=>absurd g (by simp_all)⟩)
 have e30:a.Dup=b.Dup:=by simp_all
 clear g;refine TotP.cond (fun g=>?_) (fun g => .ret ⟨fun e=>absurd e Li,fun e=>absurd g (by simp_all)⟩)
 have e31:a.ID=b.ID:=by simp_all
 clear g;refine TotP.bind (Qb3 _ _ h.props) (fun v hv=>?_);refine TotP.cond (fun g=>?_) (fun g => .ret ⟨fun e=>absurd e Li,fun e=>absurd (hv.2 (by rw [e])) (by simp_all)⟩);have e32:a.Props=b.Props:=hv.1 g;clear g hv;refine TotP.cond (fun g=>?_) (fun g => .ret ⟨fun e=>absurd e Li,fun e=>absurd g (by simp_all)⟩)
 have e33:a.Type'=b.Type':=by simp_all
 clear g;refine TotP.bind (Qqq _ _ h.hops) (fun v hv=>?_);refine TotP.cond (fun g=>?_) (fun g => .ret ⟨fun e=>absurd e Li,fun e=>absurd (hv.2 (by rw [e])) (by simp_all)⟩);have e34:a.Hops=b.Hops:=hv.1 g;clear g hv;refine TotP.cond (fun g=>?_) (fun g => .ret ⟨fun e=>absurd e Li,fun e=>absurd g (by simp_all)⟩)
 have e35:a.Channel=b.Channel:=by simp_all
 clear g;refine TotP.bind (Qfd _ _ h.pk) (fun v hv=>?_);refine TotP.cond (fun g=>?_) (fun g => .ret ⟨fun e=>absurd e Li,fun e=>absurd (hv.2 (by rw [e])) (by simp_all)⟩);have e36:a.Packet=b.Packet:=hv.1 g;clear g hv;refine TotP.cond (fun g=>?_) (fun g => .ret ⟨fun e=>absurd e Li,fun e=>absurd ((Qub a.Msg b.Msg).2 (by rw [e])) (by simp_all)⟩);have e37:a.Msg=b.Msg:=(Qub _ _).1 g;clear g;refine TotP.bind (V:=fun v=>v=true↔a.Frame=b.Frame) ⟨decide (a.Frame=b.Frame),decide_eq_true_iff,800000000,fun N hN=>Qfp hN _ _ h.fr⟩ (fun v hv => .ret ⟨fun g=>?_,fun e=>hv.2 (by rw [e])⟩);have el:a.Frame=b.Frame:=hv.1 g;exact i4
end
end Go.Av
namespace Go.Av
noncomputable section
def few (m:Nat) (o:Q2):Prop:=o.L.length≤m∧∀ e∈o.L,e.l.length≤m
end
end Go.Av
namespace Go.Av
noncomputable section
set_option maxHeartbeats 4000000
theorem Z5h {R:Reg} (hw:WR R) (c n:List UInt8) (hn:n.length≤maxLen):TotP (fun N=>Q3t N R c n) (· = Qil (Q0j n) R c n):=by
 unfold Q3t;refine TotP.bindE (Q6y n hn) ?_;rw [Af hw];exact eP
theorem Z5s (R:Reg) (c n:List UInt8) (id:Int) (hn:n.length≤maxLen):TotP (fun N=>Q2u N R c n id) (· = Qjm (Q0j n) R c n id):=by
 unfold Q2u;exact TotP.bindE (Q6y n hn) (.ret rfl)
def Z3k (t:List Qi) (N:Nat) (i:Int) (c:List Q5) (R:Reg) (go:Int->List Q5->Reg->Option Bool):Option Bool:=
 (idx t i).bind fun y103=>
 cond (Q0 .eql y103.ID 0)
 ((idx t i).bind fun y110=>
 (idx t i).bind fun y112=>
 (Q3t N R y110.Client y112.Name).bind fun v114=>
 (idx t i).bind fun y116=>
 (idx t i).bind fun y118=>
 (Yc N (⟨c⟩:Q2) y116.Client y118.Name).bind fun v120=>
 go (wrap .i64 (i+1)) v120.2.L v114.2)
 ((idx t i).bind fun y128=>
 (idx t i).bind fun y130=>
 (idx t i).bind fun y132=>
 (Q2u N R y128.Client y130.Name y132.ID).bind fun v134=>
 (idx t i).bind fun y136=>
 (idx t i).bind fun y138=>
 (idx t i).bind fun y140=>
 (Y4 N (⟨c⟩:Q2) y136.Client y138.Name y140.ID).bind fun v142=>
 go (wrap .i64 (i+1)) v142.2.L v134.2)
def Z8m:Zj:=⟨0,false,false,0,0,[],[],false,0,[],false,[],false,[],false,(⟨[],[],0,false,[]⟩:Q3r),false,0,[],[],[]⟩
def Zbe:Xl:=⟨0,(⟨false,0,false,false,false,0⟩:Qz),0,0,0,false,0,0,0,[],[]⟩
def Zbj:Qg:=⟨0,0,[],[],0,false,false,0,[],0,[],0,Z8m,Zbe,⟨0,0,[],[]⟩⟩
def Zb8 (d:Qb):Qg:=⟨3,2,[],[],0,false,false,0,[],0,d.Hops,0,Z8m,d.Msg,⟨0,0,[],[]⟩⟩
def Qb6 (d:Qb) (s:List UInt8):Qg:=⟨3,1,s,d.Msg.Data,d.Msg.Flags.QoS,d.Msg.Flags.Retain,d.Msg.Flags.Dup,d.Msg.MsgID,[],d.Msg.Flags.Type',d.Hops,0,Z8m,Zbe,⟨0,0,[],[]⟩⟩
def toG (d:Qb) (c:Int) (nm x:List UInt8×Bool) (e:Int):Qg×Int:=
 if c≠0 then (Zbj,c) else if d.Msg.Type'≠12 then (Zb8 d,0) else
 if d.Msg.Flags.Type'=2 then (if nm.2=false then (Zbj,11) else (Qb6 d nm.1,0)) else
 if e≠0 then (Zbj,11) else if x.2=(decide (d.Msg.Flags.Type'=1)) then (Qb6 d x.1,0) else (Zbj,11)
theorem Qzb (l:List Vc) (h:l.length≤30) (N:Nat):Q7g N l=some l:=by
 unfold Q7g;cases l<;>grind [Nat.beq,Nat.ble_eq]
end
end Go.Av
namespace Go.Av
noncomputable section
section
variable (t:List Qi) (client other:List UInt8) (d:Qb) (ht:t.length≤20) (hn:∀ y∈t,y.Name.length≤200) (hd:Qvo d)
include ht hn hd
end
end
end Go.Av
namespace Go.Av
noncomputable section
section
variable {R S T A:Type}
theorem TotP.succ {f g:Nat->Option R} {Q:R->Prop} (e:∀ N,f (N+1)=g N) (h:TotP g Q):TotP f Q:=by
 obtain ⟨r,hr,N0,hN⟩:=h;refine ⟨r,hr,N0+1,fun N h=>?_⟩;obtain ⟨M,rfl⟩:∃ M,N=M+1:=⟨N - 1,by omega⟩;rw [e];exact hN M (by omega)
end
theorem szs_app (l:List Q4) (v:Q4):Q4.szs (l ++ [v])=Q4.szs l+v.sz:=by
 induction l with
 | nil=>simp [Q4.szs]
 | cons w l ih=>simp only [Ng,Q4.szs,ih];omega
end
end Go.Av
namespace Go.Av
noncomputable section
end
end Go.Av
namespace Go.Av
noncomputable section
def sh1 (e:Qg):Qg:=⟨e.Proto,e.Kind,[],[],0,false,false,0,[],0,[],0,e.Packet,(⟨0,(⟨false,0,false,false,false,0⟩:Qz),0,0,0,false,0,0,0,[],[]⟩:Xl),(⟨0,0,[],[]⟩:X9)⟩
def sh3 (e:Qg):Qg:=⟨e.Proto,e.Kind,[],[],0,false,false,0,[],0,e.Hops,0,(⟨0,false,false,0,0,[],[],false,0,[],false,[],false,[],false,(⟨[],[],0,false,[]⟩:Q3r),false,0,[],[],[]⟩:Zj),e.Msg,(⟨0,0,[],[]⟩:X9)⟩
def sh4 (e:Qg):Qg:=⟨e.Proto,e.Kind,[],[],0,false,false,0,[],0,[],0,(⟨0,false,false,0,0,[],[],false,0,[],false,[],false,[],false,(⟨[],[],0,false,[]⟩:Q3r),false,0,[],[],[]⟩:Zj),(⟨0,(⟨false,0,false,false,false,0⟩:Qz),0,0,0,false,0,0,0,[],[]⟩:Xl),e.Frame⟩
structure Oth (e:Qg) (c:Int):Prop where
 a:e.Proto=1∨e.Proto=2->(c=0->sh1 e=e)∧(sh1 e≠e->c=2)∧(e.Packet.Kind=0->c≠0)
 b:e.Proto=3->(c=0->sh3 e=e)∧(sh3 e≠e->c=2)
 d:e.Proto=4->(c=0->sh4 e=e)∧(sh4 e≠e->c=2)
 f:c=0->e.Proto=1∨e.Proto=2∨e.Proto=3∨e.Proto=4
theorem Qyj:Z30 (⟨0,false,false,0,0,[],[],false,0,[],false,[],false,[],false,(⟨[],[],0,false,[]⟩:Q3r),false,0,[],[],[]⟩:Zj):=⟨Lk _,Lk _,Lk _,Lk _⟩
theorem Z8k:Q4.szs ([]:List Q4)<700000000:=by decide
structure At (e:Qg) (l:Yq) (t b r:Bool) (v:Int):Prop where
 t:Tot (fun N=>Q1p N e) t
 b:Tot (fun N=>Q1j N e) b
 v:Tot (fun N=>Jq N 3 e.Props) v
 r:Tot (fun N=>Q75 N l) r
def cq (e:Qg):Bool:=cond (decide (e.QoS=1)) true (decide (e.QoS=2))
structure Ck (e:Qg) (l:Yq) (t b r:Bool) (v c:Int):Prop where
 zero:c=0->r=true
 pub0:e.Kind=1->c=0->Q0j e.Topic=true∧v=0∧PubT e (cq e) t b∧(e.Payload.length:Int)≤l.MaxPacket
 pub1:e.Kind=1->r=true->Q0j e.Topic=true->v=0->PubT e (cq e) t b->(e.Payload.length:Int)≤l.MaxPacket->c=0
 pub2:e.Kind=1->r=true->Q0j e.Topic=true->¬ PubT e (cq e) t b->c=2
 oth:e.Kind=2->r=true->Oth e c
 no:c=0->e.Kind=1∨e.Kind=2
theorem Qza (N:Nat) (e:Qg):Gw N e=Uf N e (cq e):=by
 unfold Gw cq;rw [Qx,Qx];cases decide (e.QoS=1)<;>rfl
end
end Go.Av
namespace Go.Av
noncomputable section
section
variable {T:Type}
end
structure Zpt (p:Zj):Prop where
 codes:p.Codes.length≤100000
 filters:p.Filters.length≤100000
 props:p.Props.length≤100000
 wprops:p.Will.Props.length≤100000
end
abbrev Aw := @TotP.tot
abbrev Ax := @TotP.bind
abbrev Ay := @TotP.bindE
abbrev Az := @TotP.cond
abbrev AA := @TotP.chk
abbrev AB := @Stp.fin
abbrev AC := @Stp.ret
abbrev AD := @Stp.go
abbrev AE := @Stp.bind
abbrev AF := @Stp.idx
abbrev AG := @Stp.cond
abbrev AH := @Stp.chk
end Go.Av
