/- Part of FrommqttCalls: the law returns true; no condition. -/
import Derived.Test.YtbcddiagcaddbaaGreatDoorAvOwn
import Derived.Test.YtbcddiagcaddbaaGreatDoorRound
import Derived.Test.YtbcddiagcaddbaaGreatDoorLiftF5
import Derived.Test.YtbcddiagcaddbaaGreatDoorAvTac
import Derived.Test.YtbcddiagcaddbaaGreatDoorOks
set_option linter.all false
open Go.IntKind (wrap)
namespace Go.Av
noncomputable section
section
variable {R A S T:Type}
def Tot (f:Nat->Option R) (r:R):Prop:=∃ N0,∀ N,N0≤N->f N=some r
def TotP (f:Nat->Option R) (Q:R->Prop):Prop:=∃ r,Q r∧Tot f r
theorem Tot.of {f:Nat->Option R} {r:R} (h:∀ N,f N=some r):Tot f r:=⟨0,fun N _=>h N⟩
theorem Tot.ret (r:R):Tot (fun _=>some r) r := .of fun _=>rfl
theorem Tot.bind {f:Nat->Option A} {g:Nat->A->Option R} {v:A} {r:R} (h1:Tot f v) (h2:Tot (fun N=>g N v) r):Tot (fun N=>(f N).bind (g N)) r:=by
 obtain ⟨a,ha⟩:=h1;obtain ⟨b,hb⟩:=h2;exact ⟨max a b,fun N hN=>by show (f N).bind (g N)=_;rw [ha N (by omega)];exact hb N (by omega)⟩
theorem TotP.of {f:Nat->Option R} {r:R} {Q:R->Prop} (hq:Q r) (h:Tot f r):TotP f Q:=⟨r,hq,h⟩
theorem TotP.ret {r:R} {Q:R->Prop} (h:Q r):TotP (fun _=>some r) Q:=⟨r,h,.ret r⟩
theorem TotP.mono {f:Nat->Option R} {Q Q':R->Prop} (h:TotP f Q) (hq:∀ r,Q r->Q' r):TotP f Q':=by
 obtain ⟨r,h1,h2⟩:=h;exact ⟨r,hq r h1,h2⟩
theorem TotP.tot {f:Nat->Option R} {r:R} (h:TotP f (· = r)):Tot f r:=by obtain ⟨x,rfl,h2⟩:=h;exact h2
theorem TotP.bind {f:Nat->Option A} {g:Nat->A->Option R} {V:A->Prop} {Q:R->Prop} (h1:TotP f V) (h2:∀ v,V v->TotP (fun N=>g N v) Q):TotP (fun N=>(f N).bind (g N)) Q:=by
 obtain ⟨v,hv,t⟩:=h1;obtain ⟨r,hr,u⟩:=h2 v hv;exact ⟨r,hr,t.bind u⟩
theorem TotP.bindE {f:Nat->Option A} {g:Nat->A->Option R} {v:A} {Q:R->Prop} (h1:Tot f v) (h2:TotP (fun N=>g N v) Q):TotP (fun N=>(f N).bind (g N)) Q:=by
 obtain ⟨r,hr,u⟩:=h2;exact ⟨r,hr,h1.bind u⟩
theorem TotP.cond {b:Bool} {f g:Nat->Option R} {Q:R->Prop} (h1:b=true->TotP f Q) (h2:b=false->TotP g Q):TotP (fun N=>cond b (f N) (g N)) Q:=by
 cases b
 ·exact h2 rfl
 exact h1 rfl
theorem TotP.chk {b:Bool} {f:Nat->Option R} {Q:R->Prop} (hb:b=true) (h:TotP f Q):TotP (fun N=>_root_.cond b (f N) none) Q:=by subst hb;exact h
theorem TotP.idx {l:List T} {i:Int} {y:T} {g:Nat->T->Option R} {Q:R->Prop} (h:idx l i=some y) (h2:TotP (fun N=>g N y) Q):TotP (fun N=>(Go.Av.idx l i).bind (g N)) Q:=
 .bindE (.of fun _=>h) h2
theorem TotP.optC {o:Option T} {f:Nat->T->Option R} {z:Nat->Option R} {Q:R->Prop} (h1:∀ v,o=some v->TotP (fun N=>f N v) Q) (h2:o=none->TotP z Q):TotP (fun N=>Go.Av.optC o (f N) (z N)) Q:=by
 cases o with
 | none=>exact h2 rfl
 | some v=>exact h1 v rfl
def Stp (L:Nat->Nat->S->Option R) (P:S->Prop) (Q:R->Prop) (f:Nat->Nat->Option R):Prop:=
 (∃ r N0,Q r∧∀ N n,N0≤N->f N n=some r)∨∃ s N0,P s∧∀ N n,N0≤N->f N n=L N n s
section
variable {L:Nat->Nat->S->Option R} {P:S->Prop} {Q:R->Prop}
theorem Stp.fin {f:Nat->Option R} (h:TotP f Q):Stp L P Q (fun N _=>f N):=by
 obtain ⟨r,h1,N0,h2⟩:=h;exact .inl ⟨r,N0,h1,fun N _ hN=>h2 N hN⟩
theorem Stp.ret {r:R} (h:Q r):Stp L P Q (fun _ _=>some r) := .inl ⟨r,0,h,fun _ _ _=>rfl⟩
theorem Stp.go (s:S) (h:P s):Stp L P Q (fun N n=>L N n s) := .inr ⟨s,0,h,fun _ _ _=>rfl⟩
theorem Stp.bind {f:Nat->Option A} {g:Nat->Nat->A->Option R} {V:A->Prop} (h1:TotP f V) (h2:∀ v,V v->Stp L P Q (fun N n=>g N n v)):Stp L P Q (fun N n=>(f N).bind (g N n)):=by
 obtain ⟨v,hv,a,ha⟩:=h1
 rcases h2 v hv with ⟨r,b,hr,hb⟩ | ⟨s,b,hs,hb⟩
 ·exact .inl ⟨r,max a b,hr,fun N n hN=>by show (f N).bind _=_;rw [ha N (by omega)];exact hb N n (by omega)⟩
 exact .inr ⟨s,max a b,hs,fun N n hN=>by show (f N).bind _=_;rw [ha N (by omega)];exact hb N n (by omega)⟩
theorem Stp.idx {l:List T} {i:Int} {y:T} {g:Nat->Nat->T->Option R} (h:idx l i=some y) (h2:Stp L P Q (fun N n=>g N n y)):Stp L P Q (fun N n=>(Go.Av.idx l i).bind (g N n)):=
 .bind (f:=fun _=>Go.Av.idx l i) (V:=(· = y)) ⟨y,rfl,.of fun _=>h⟩ (fun v hv=>by subst hv;exact h2)
theorem Stp.cond {b:Bool} {f g:Nat->Nat->Option R} (h1:b=true->Stp L P Q f) (h2:b=false->Stp L P Q g):Stp L P Q (fun N n=>cond b (f N n) (g N n)):=by
 cases b
 ·exact h2 rfl
 exact h1 rfl
theorem Stp.chk {b:Bool} {f:Nat->Nat->Option R} (hb:b=true) (h:Stp L P Q f):Stp L P Q (fun N n=>_root_.cond b (f N n) none):=by subst hb;exact h
theorem Qbi (inv:S->Prop) (μ:S->Nat) (Zf:∀ s,inv s->Stp L (fun s'=>inv s' ∧ μ s' < μ s) Q (fun N n=>L N (n+1) s)) (s:S) (h:inv s):TotP (fun N=>L N N s) Q:=by
 have key:∀ (m:Nat) (s:S),μ s<m->inv s->∃ r N0,Q r∧∀ N n,N0≤N->N0≤n->L N n s=some r:=by
  intro m
  induction m with
  | zero=>intro s h;omega
  | succ m ih=>
   intro s hm hi
   rcases Zf s hi with ⟨r,N0,hr,hL⟩ | ⟨s',N0,⟨h1,h2⟩,hL⟩
   ·refine ⟨r,N0+1,hr,fun N n h1 h2=>?_⟩;obtain ⟨k,rfl⟩:∃ k,n=k+1:=⟨n - 1,by omega⟩;exact hL N k (by omega)
   obtain ⟨r,M0,hr,hM⟩:=ih s' (by omega) h1;refine ⟨r,max N0 M0+1,hr,fun N n h1 h2=>?_⟩;obtain ⟨k,rfl⟩:∃ k,n=k+1:=⟨n - 1,by omega⟩;exact (hL N k (by omega)).trans (hM N k (by omega) (by omega))
 obtain ⟨r,N0,hr,hL⟩:=key (μ s+1) s (by omega) h;exact ⟨r,hr,N0,fun N hN=>hL N N hN hN⟩
end
theorem Q70 {L:Nat->Nat->Int->Option R} {Q:R->Prop} (m:Nat) (J:Nat->Prop) (Zf:∀ i,i<m->J i->Stp L (fun s=>s=((i+1:Nat):Int)∧J (i+1)) Q (fun N n=>L N (n+1) (i:Int)))
  (fin:J m->Stp L (fun _=>False) Q (fun N n=>L N (n+1) (m:Int))) (h0:J 0):TotP (fun N=>L N N 0) Q:=by
 refine Qbi (S:=Int) (fun s=>∃ i:Nat,s=(i:Int)∧i≤m∧J i) (fun s=>m - s.toNat) ?_ 0 ⟨0,rfl,Ln _,h0⟩
 rintro s ⟨i,rfl,hi,hj⟩
 by_cases h:i<m
 ·rcases Zf i h hj with ⟨r,N0,hr,hL⟩ | ⟨s',N0,⟨rfl,h2⟩,hL⟩
  ·exact .inl ⟨r,N0,hr,hL⟩
  exact .inr ⟨_,N0,⟨⟨i+1,rfl,h,h2⟩,by simp only [Lt];omega⟩,hL⟩
 have:i=m:=by omega
 subst this
 rcases fin hj with ⟨r,N0,hr,hL⟩ | ⟨s',N0,h2,hL⟩
 ·exact .inl ⟨r,N0,hr,hL⟩
 exact h2.elim
end
theorem Qf (x y:Int):Q4 .lss x y=decide (x<y):=rfl
theorem X2 (x y:Int):Q4 .leq x y=decide (x≤y):=rfl
theorem Qx (x y:Int):Q4 .gtr x y=decide (x>y):=rfl
theorem Xv (x y:Int):Q4 .geq x y=decide (x≥y):=rfl
theorem Q9 (x y:Int):Q4 .eql x y=decide (x=y):=by unfold Q4;by_cases h:x=y<;>simp [h]
theorem Qp (x y:Int):Q4 .neq x y=decide (x≠y):=by unfold Q4;by_cases h:x=y<;>simp [h]
theorem w64 (x:Int) (h : -9223372036854775808≤x∧x≤9223372036854775807):wrap .i64 x=x:=IntWalk.i64_in x h
theorem Z3 {T:Type} {l:List T} {i:Nat} (h:i<l.length):idx l (i:Int)=some l[i]:=Ld h
theorem Qci:maxLen≤9223372036854775807:=by unfold maxLen;decide
end
end Go.Av
namespace Go.Av
noncomputable section
def at8 (s:List UInt8) (i:Nat):Nat:=(s.getD i 0).toNat
theorem Qdk (s:List UInt8) (i:Nat):at8 s i<256:=Dj _
theorem Qe6 {s:List UInt8} {i:Nat} (h:i<s.length):at8 s i=(s[i]).toNat:=by simp [at8,h]
def goes (s:List UInt8) (i:Nat):Prop:=i<s.length∧128≤at8 s i∧at8 s i<192
instance (s:List UInt8) (i:Nat):Decidable (goes s i):=inferInstanceAs (Decidable (_∧_))
def Qg4 (c:Nat):Prop:=¬ (55296≤c∧c≤57343)∧c≤1114111
instance (c:Nat):Decidable (Qg4 c):=inferInstanceAs (Decidable (_∧_))
def Q76 (s:List UInt8) (i:Nat):Nat×Nat:=
 if at8 s i<128 then (at8 s i,1)
 else if 192≤at8 s i∧at8 s i<224∧goes s (i+1)∧128≤64 * (at8 s i - 192)+(at8 s (i+1) - 128) then (64 * (at8 s i - 192)+(at8 s (i+1) - 128),2)
 else if 224≤at8 s i∧at8 s i<240∧goes s (i+1)∧goes s (i+2)∧2048≤64 * (64 * (at8 s i - 224)+(at8 s (i+1) - 128))+(at8 s (i+2) - 128)∧Qg4 (64 * (64 * (at8 s i - 224)+(at8 s (i+1) - 128))+(at8 s (i+2) - 128)) then
  (64 * (64 * (at8 s i - 224)+(at8 s (i+1) - 128))+(at8 s (i+2) - 128),3)
 else if 240≤at8 s i∧at8 s i<248∧goes s (i+1)∧goes s (i+2)∧goes s (i+3)∧65536≤64 * (64 * (64 * (at8 s i - 240)+(at8 s (i+1) - 128))+(at8 s (i+2) - 128))+(at8 s (i+3) - 128) ∧
   Qg4 (64 * (64 * (64 * (at8 s i - 240)+(at8 s (i+1) - 128))+(at8 s (i+2) - 128))+(at8 s (i+3) - 128)) then
  (64 * (64 * (64 * (at8 s i - 240)+(at8 s (i+1) - 128))+(at8 s (i+2) - 128))+(at8 s (i+3) - 128),4)
 else (65533,1)
theorem Qo3 (c:Nat):Utf8.valid (c:Int)=true↔Qg4 c:=by
 unfold Utf8.valid Qg4;simp only [La,Be,Ba,Ag,An];omega
theorem Qyf (a b c d:Nat) (G1 G2 G3:Prop) [Decidable G1] [Decidable G2] [Decidable G3] (h0:a<256) (q1:G1->128≤b∧b<192) (q2:G2->128≤c∧c<192) (q3:G3->128≤d∧d<192) :
  (if a<128 then (a,1)
   else if (a / 32 == 6&&decide G1)=true then (if a % 32 * 64+b % 64≥128 then (a % 32 * 64+b % 64,2) else (65533,1))
   else if (a / 16 == 14&&decide G1&&decide G2)=true then (if (decide (a % 16 * 4096+b % 64 * 64+c % 64≥2048)&&Utf8.valid ((a % 16 * 4096+b % 64 * 64+c % 64:Nat):Int))=true then (a % 16 * 4096+b % 64 * 64+c % 64,3) else (65533,1))
   else if (a / 8 == 30&&decide G1&&decide G2&&decide G3)=true then (if (decide (a % 8 * 262144+b % 64 * 4096+c % 64 * 64+d % 64≥65536)&&Utf8.valid ((a % 8 * 262144+b % 64 * 4096+c % 64 * 64+d % 64:Nat):Int))=true then (a % 8 * 262144+b % 64 * 4096+c % 64 * 64+d % 64,4) else (65533,1))
   else (65533,1)) =
  (if a<128 then (a,1)
   else if 192≤a∧a<224∧G1∧128≤64 * (a - 192)+(b - 128) then (64 * (a - 192)+(b - 128),2)
   else if 224≤a∧a<240∧G1∧G2∧2048≤64 * (64 * (a - 224)+(b - 128))+(c - 128)∧Qg4 (64 * (64 * (a - 224)+(b - 128))+(c - 128)) then (64 * (64 * (a - 224)+(b - 128))+(c - 128),3)
   else if 240≤a∧a<248∧G1∧G2∧G3∧65536≤64 * (64 * (64 * (a - 240)+(b - 128))+(c - 128))+(d - 128)∧Qg4 (64 * (64 * (64 * (a - 240)+(b - 128))+(c - 128))+(d - 128)) then
    (64 * (64 * (64 * (a - 240)+(b - 128))+(c - 128))+(d - 128),4)
   else (65533,1)):=by
 simp only [La,Ag,Aj,Qo3,ge_iff_le];have e2:∀ x,Qg4 x=(¬ (55296≤x∧x≤57343)∧x≤1114111):=fun x=>rfl
 by_cases c1:a<128
 ·rw [Af c1,Af c1]
 rw [Ae c1,Ae c1]
 by_cases c2:a<192
 ·rw [Ae (by omega),Ae (by omega),Ae (by omega),Ae (by omega),Ae (by omega),Ae (by omega)]
 by_cases c3:a<224
 ·by_cases g1:G1
  ·have:=q1 g1
   have e:a % 32 * 64+b % 64=64 * (a - 192)+(b - 128):=by omega
   rw [Af ⟨by omega,g1⟩,e]
   by_cases c4:128≤64 * (a - 192)+(b - 128)
   ·rw [Af c4,Af ⟨by omega,c3,g1,c4⟩]
   rw [Ae c4,Ae (fun h=>c4 h.2.2.2),Ae (by omega),Ae (by omega)]
  rw [Ae (fun h=>g1 h.2),Ae (by omega),Ae (by omega),Ae (fun h=>g1 h.2.2.1),Ae (by omega),Ae (by omega)]
 rw [Ae (by omega),Ae (c:=192≤a∧_) (by omega)]
 by_cases c5:a<240
 ·by_cases g:G1∧G2
  ·have:=q1 g.1;have:=q2 g.2
   have e:a % 16 * 4096+b % 64 * 64+c % 64=64 * (64 * (a - 224)+(b - 128))+(c - 128):=by omega
   rw [Af ⟨⟨by omega,g.1⟩,g.2⟩,e]
   by_cases c4:2048≤64 * (64 * (a - 224)+(b - 128))+(c - 128)∧Qg4 (64 * (64 * (a - 224)+(b - 128))+(c - 128))
   ·rw [Af c4,Af ⟨by omega,c5,g.1,g.2,c4⟩]
   rw [Ae c4,Ae (fun h=>c4 h.2.2.2.2),Ae (by omega)]
  rw [Ae (fun h=>g ⟨h.1.2,h.2⟩),Ae (by omega),Ae (fun h=>g ⟨h.2.2.1,h.2.2.2.1⟩),Ae (by omega)]
 rw [Ae (by omega),Ae (c:=224≤a∧_) (by omega)]
 by_cases c6:a<248
 ·by_cases g:G1∧G2∧G3
  ·have:=q1 g.1;have:=q2 g.2.1;have:=q3 g.2.2
   have e:a % 8 * 262144+b % 64 * 4096+c % 64 * 64+d % 64=64 * (64 * (64 * (a - 240)+(b - 128))+(c - 128))+(d - 128):=by omega
   rw [Af ⟨⟨⟨by omega,g.1⟩,g.2.1⟩,g.2.2⟩,e]
   by_cases c4:65536≤64 * (64 * (64 * (a - 240)+(b - 128))+(c - 128))+(d - 128)∧Qg4 (64 * (64 * (64 * (a - 240)+(b - 128))+(c - 128))+(d - 128))
   ·rw [Af c4,Af ⟨by omega,c6,g.1,g.2.1,g.2.2,c4⟩]
   rw [Ae c4,Ae (fun h=>c4 h.2.2.2.2.2)]
  rw [Ae (fun h=>g ⟨h.1.1.2,h.1.2,h.2⟩),Ae (fun h=>g ⟨h.2.2.1,h.2.2.2.1,h.2.2.2.2.1⟩)]
 rw [Ae (by omega),Ae (by omega)]
theorem Z6j (s:List UInt8) (j:Nat):(decide (j<s.length)&&(at8 s j / 64 == 2))=decide (goes s j):=by
 have hk:=Qdk s j
 by_cases hg:goes s j
 ·have h4:at8 s j / 64=2:=by have:=hg.2;omega
  simp [hg,hg.1,h4]
 simp only [hg,decide_false,Bool.and_eq_false_iff,An]
 by_cases hl:j<s.length
 ·right;simp only [beq_eq_false_iff_ne,ne_eq]
  intro h4;exact hg ⟨hl,by omega,by omega⟩
 exact .inl hl
theorem Qrg (s:List UInt8) (i:Nat):Qg6 s i=Q76 s i:=by
 have u:∀ j,(s.getD j 0).toNat=at8 s j:=fun _=>rfl;have:=Qyf (at8 s i) (at8 s (i+1)) (at8 s (i+2)) (at8 s (i+3)) (goes s (i+1)) (goes s (i+2)) (goes s (i+3)) (Qdk _ _) (fun h=>h.2) (fun h=>h.2) (fun h=>h.2);unfold Q76;rw [← this];unfold Qg6;simp only [Nt,u,Z6j];rfl
theorem Qiq (s:List UInt8) (i:Nat) (h:i<s.length):1≤(Q76 s i).2∧i+(Q76 s i).2≤s.length∧((Q76 s i).1<128↔at8 s i<128)∧(at8 s i<128->(Q76 s i).1=at8 s i∧(Q76 s i).2=1) ∧
  (∀ k,1≤k->k<(Q76 s i).2->128≤at8 s (i+k))∧Qg4 (Q76 s i).1:=by
 have h0:=Qdk s i;unfold Q76;split
 ·refine ⟨by simp,by simp;omega,by simp,fun _=>⟨rfl,rfl⟩,fun k h1 h2=>by simp at h2;omega,by unfold Qg4;simp;omega⟩
 split
 ·rename_i h1 h2;obtain ⟨_,_,g1,h3⟩:=h2;refine ⟨by simp,by simp;have:=g1.1;omega,by simp;omega,fun h=>by omega,fun k h4 h5=>?_,by unfold Qg4;simp only;have:=g1.2;omega⟩
  have:k=1:=by simp at h5;omega
  subst this;exact g1.2.1
 split
 ·rename_i h1 h2 h3;obtain ⟨_,_,g1,g2,h3,h6⟩:=h3;refine ⟨by simp,by simp;have:=g2.1;omega,by simp;omega,fun h=>by omega,fun k h4 h5=>?_,h6⟩
  have:k=1∨k=2:=by simp at h5;omega
  rcases this with rfl | rfl
  ·exact g1.2.1
  exact g2.2.1
 split
 ·rename_i h1 h2 h3 h4;obtain ⟨_,_,g1,g2,g3,h3,h6⟩:=h4;refine ⟨by simp,by simp;have:=g3.1;omega,by simp;omega,fun h=>by omega,fun k h4 h5=>?_,h6⟩
  have:k=1∨k=2∨k=3:=by simp at h5;omega
  rcases this with rfl | rfl | rfl
  ·exact g1.2.1
  ·exact g2.2.1
  exact g3.2.1
 rename_i h1 h2 h3 h4;exact ⟨by simp,by simp;omega,by simp;omega,fun h=>by omega,fun k h4 h5=>by simp at h5;omega,by unfold Qg4;simp⟩
def Qpm (s:List UInt8) (i:Nat):Prop:=Q76 s i=(65533,1)
instance (s:List UInt8) (i:Nat):Decidable (Qpm s i):=inferInstanceAs (Decidable (_=_))
def Qgo (s:List UInt8) (pos:Nat):Option Nat:=
 if h:pos<s.length then (if (Q76 s pos).1=0∨Qpm s pos then some pos else Qgo s (pos+(Q76 s pos).2)) else none
termination_by s.length - pos
decreasing_by have:=(Qiq s pos h).1;omega
end
end Go.Av
namespace Go.Av
noncomputable section
open Go.Proofs
theorem Z3f {b:UInt8} {n:Nat} (h:b.toNat=n) (hn:n<256):b=UInt8.ofNat n:=by
 apply Dh.1;rw [h];simp [UInt8.toNat_ofNat];omega
theorem Qv3 {s:List UInt8} {i:Nat} (hi:i<s.length) (hc:(Q76 s i).1=65533):(3≤(s.drop i).length∧(s.drop i).take 3 = [239,191,189])↔¬ Qpm s i:=by
 constructor
 ·rintro ⟨h1,h2⟩ hn
  have hl:i+2<s.length:=by simp at h1;omega
  have g:∀ k,k<3->s[i+k]? = ([239,191,189]:List UInt8)[k]? := by
   intro k hk;rw [← h2,Mi,Af hk,Mn]
  have a0:at8 s i=239:=by have:=g 0 (by omega);simp at this;simp [at8,List.getD_eq_getElem?_getD,this]
  have a1:at8 s (i+1)=191:=by have:=g 1 (by omega);simp at this;simp [at8,List.getD_eq_getElem?_getD,this]
  have a2:at8 s (i+2)=189:=by have:=g 2 (by omega);simp at this;simp [at8,List.getD_eq_getElem?_getD,this]
  have g1:goes s (i+1):=⟨by omega,by omega,by omega⟩;have g2:goes s (i+2):=⟨by omega,by omega,by omega⟩;unfold Qpm Q76 at hn;rw [a0,a1,a2] at hn;simp [g1,g2,Qg4] at hn
 intro hn;have h0:=Qdk s i;unfold Qpm at hn;unfold Q76 at hn hc;split at hn
 ·rename_i h1;rw [Af h1] at hc;simp at hc;omega
 rename_i h1;rw [Ae h1] at hc;split at hn
 ·rename_i h2;rw [Af h2] at hc;obtain ⟨_,_,g1,_⟩:=h2;have:=g1.2;simp at hc;omega
 rename_i h2;rw [Ae h2] at hc;split at hn
 ·rename_i h3;rw [Af h3] at hc;obtain ⟨_,_,g1,g2,_⟩:=h3;have b1:=g1.2;have b2:=g2.2;have l2:=g2.1
  simp only at hc
  have a0:at8 s i=239:=by omega
  have a1:at8 s (i+1)=191:=by omega
  have a2:at8 s (i+2)=189:=by omega
  rw [Qe6 (by omega)] at a0 a1 a2;refine ⟨by simp;omega,?_⟩;apply Ni;intro k;rw [Mi]
  by_cases hk:k<3
  ·rw [Af hk,Mn]
   have:k=0∨k=1∨k=2:=by omega
   rcases this with rfl | rfl | rfl
   ·rw [Nt,Ld (by omega),Z3f a0 (by omega)];rfl
   ·rw [Ld (by omega),Z3f a1 (by omega)];rfl
   rw [Ld (by omega),Z3f a2 (by omega)];rfl
  rw [Ae hk];simp;omega
 rename_i h3;rw [Ae h3] at hc;split at hn
 ·rename_i h4;rw [Af h4] at hc;obtain ⟨_,_,g1,g2,g3,h5,h6⟩:=h4
  simp only at hc
  omega
 exact absurd rfl hn
theorem Z03 (N:Nat) (s:List UInt8):Q3a N s=some (decide (3≤s.length∧s.take 3 = [239,191,189])):=by
 unfold Q3a;rw [Xv]
 by_cases h:3≤s.length
 ·have h1:decide ((s.length:Int)≥3)=true:=by simp;omega
  have h2:(Nat.ble 0 3&&Nat.ble 3 s.length)=true:=by simp [h]
  rw [h1,h2];simp only [Ai,Nb,Q1l]
  congr 1
  by_cases h3:s.take 3 = [239,191,189]<;>simp [h,h3]
 have h1:decide ((s.length:Int)≥3)=false:=by simp;omega
 rw [h1];simp [h]
def Z4b (o:Option Nat):Int:=match o with
 | some p=>p
 | none => -1
theorem Z2k (s:List UInt8):Tot (fun N=>Q79 N s) (Z4b (Qgo s 0)):=by
 refine TotP.tot ?_;show TotP (fun N=>Ut N s N 0) _;refine Qbi (L:=fun N n (p:Nat)=>Ut N s n p) (fun p=>Qgo s p=Qgo s 0) (fun p=>s.length - p) (fun p hp=>?_) 0 rfl;show Stp _ _ _ (fun N n=>cond (Nat.blt p s.length) _ _);refine Stp.cond (fun h=>?_) (fun h=>?_)
 ·have hl:p<s.length:=by simpa [Nat.blt_eq] using h
  rw [Qrg];have hw:=Qiq s p hl
  have hb:Qgo s p=(if (Q76 s p).1=0∨Qpm s p then some p else Qgo s (p+(Q76 s p).2)):=by rw [Qgo,dif_pos hl]
  rw [Q9,Q9];refine Stp.cond (fun h0=>?_) (fun h0=>?_)
  ·have h0:(Q76 s p).1=0:=by simpa using h0
   refine Stp.ret ?_;rw [← hp,hb,Af (.inl h0)];rfl
  have h0:(Q76 s p).1≠0:=by simpa using h0
  refine Stp.cond (fun h1=>?_) (fun h1=>?_)
  ·have h1:(Q76 s p).1=65533:=by have:=Aa h1;omega
   refine Stp.chk (by simp;omega) ?_;rw [Nl];refine Stp.bind (V:=(· = decide (3≤(s.drop p).length∧(s.drop p).take 3 = [239,191,189]))) ⟨_,rfl,.of fun N=>Z03 N _⟩ ?_
   rintro v rfl
   have hwi:=Qv3 hl h1;refine Stp.cond (fun h2=>?_) (fun h2=>?_)
   ·have h2:¬ (3≤(s.drop p).length∧(s.drop p).take 3 = [239,191,189]):=by
     have:(!decide (3≤(s.drop p).length∧(s.drop p).take 3 = [239,191,189]))=true:=h2;simpa only [Ba,An] using this
    have h3:Qpm s p:=Mj fun h=>h2 (hwi.2 h);refine Stp.ret ?_;rw [← hp,hb,Af (.inr h3)];rfl
   have h2:(3≤(s.drop p).length∧(s.drop p).take 3 = [239,191,189]):=by
    have:(!decide (3≤(s.drop p).length∧(s.drop p).take 3 = [239,191,189]))=false:=h2;simpa only [Bool.not_eq_false',Ag] using this
   refine Stp.go (p+(Q76 s p).2) ⟨?_,by have:=hw.1;have:=hw.2.1;omega⟩;rw [← hp,hb,Ae]
   rintro (h | h)
   ·exact h0 h
   exact hwi.1 h2 h
  have h1:(Q76 s p).1≠65533:=by intro e;rw [e] at h1;simp at h1
  refine Stp.go (p+(Q76 s p).2) ⟨?_,by have:=hw.1;have:=hw.2.1;omega⟩;rw [← hp,hb,Ae]
  rintro (h | h)
  ·exact h0 h
  unfold Qpm at h;rw [h] at h1;exact h1 rfl
 have hl:¬ p<s.length:=fun hlt=>by
  have h':Nat.blt p s.length=true:=by rw [Ch];exact hlt
  rw [h'] at h;cases h
 refine Stp.ret ?_;rw [← hp,Qgo,dif_neg hl];rfl
def Vf (s:List UInt8):Bool:=decide (s.length≤65535)&&(Qgo s 0).isNone
theorem Qzr (o:Option Nat):decide (Z4b o = -1)=o.isNone:=by
 cases o with
 | none=>rfl
 | some p=>simp [Z4b]
theorem Q9t (s:List UInt8):Tot (fun N=>Yw N s) (Vf s):=by
 refine TotP.tot ?_;show TotP (fun N=>cond (Q4 .leq (s.length:Int) 65535) _ _) _;rw [X2];refine TotP.cond (fun h=>?_) (fun h=>?_)
 ·have h:s.length≤65535:=by have:=Aa h;omega
  refine TotP.bindE (Z2k s) (.ret ?_);rw [Q9,Qzr];simp [Vf,h]
 have h:¬ s.length≤65535:=by have:=Ac h;omega
 exact .ret (by simp [Vf,h])
end
end Go.Av
namespace Go.Av
noncomputable section
open Go.Proofs
theorem Qs3 (s:List UInt8):Tot (fun N=>Q6x N s) (decide (s ≠ [])&&Vf s):=by
 refine TotP.tot ?_;show TotP (fun N=>cond (Q1l .neq s []) _ _) _
 have e:Q1l .neq s []=decide (s ≠ []):=by cases s<;>rfl
 rw [e];refine TotP.cond (fun h=>?_) (fun h=>?_)
 ·exact .bindE (Q9t s) (.ret (by rw [h];rfl))
 exact .ret (by rw [h];rfl)
theorem Qxu (c:UInt8):∀ (l:List UInt8) (i:Nat),(0≤Qea l c i)↔c∈l
 | [],i=>by simp [Qea]
 | b::l,i=>by
  unfold Qea
  by_cases h:b == c
  ·rw [Af h];have:=eq_of_beq h;subst this;simp
  rw [Ae h,Qxu c l (i+1)];have:¬ c=b:=fun e=>h (by simp [e]);simp [this]
theorem Qyq {c:Nat} (h:Qg4 c) (h1:128≤c):∃ l:List UInt8,(Utf8.encode (c:Int)).data.toList=l∧2≤l.length∧l.length≤4∧∀ b∈l,128≤b.toNat:=by
 have hv:=(Qo3 c).2 h;unfold Utf8.encode;simp only [hv,Ak,Lt];have h2:=h.2
 have m:∀ n,n<256->128≤n->128≤(UInt8.ofNat n).toNat:=fun n a b=>by rw [Cw];omega
 rw [Ae (by omega)];split
 ·refine ⟨_,rfl,by simp,by simp,fun b hb=>?_⟩;simp only [Ml,Bc,or_false] at hb
  rcases hb with rfl | rfl<;>exact m _ (by omega) (by omega)
 split
 ·refine ⟨_,rfl,by simp,by simp,fun b hb=>?_⟩;simp only [Ml,Bc,or_false] at hb
  rcases hb with rfl | rfl | rfl<;>exact m _ (by omega) (by omega)
 refine ⟨_,rfl,by simp,by simp,fun b hb=>?_⟩;simp only [Ml,Bc,or_false] at hb
 rcases hb with rfl | rfl | rfl | rfl<;>exact m _ (by omega) (by omega)
theorem Z00 (M:Nat):Yj (M+3) [43,35] (M+3) 0=some (-1):=by
 have e1:Qg6 [43,35] 0=(43,1):=by decide
 have e2:Qg6 [43,35] (0+1)=(35,1):=by decide
 have b0:Nat.blt 0 ([43,35]:List UInt8).length=true:=rfl;have b1:Nat.blt (0+1) ([43,35]:List UInt8).length=true:=rfl;have b2:Nat.blt (0+1+1) ([43,35]:List UInt8).length=false:=rfl
 have c1:Q4 .eql ((43:Nat):Int) 65533=false:=by decide
 have c2:Q4 .eql ((35:Nat):Int) 65533=false:=by decide
 rw [Yj,e1,b0,Ai,c1,Ah,Yj,e2,b1,Ai,c2,Ah,Yj,b2,Ah]
theorem Z30 {c:Nat} (hc:Qg4 c) (N:Nat):Vw N (c:Int)=some true:=by
 unfold Vw;simp only [X2,Qf];obtain ⟨k1,k2⟩:=hc;rw [Ad (show (0:Int)≤(c:Int) by omega)]
 by_cases h5:(c:Int)<55296
 ·rw [Ad h5];rfl
 have h6:(57343:Int)<(c:Int):=by omega
 have h7:(c:Int)≤1114111:=by omega
 rw [Ab h5,Ad h6,Ad h7];rfl
theorem Qzi {c:Nat} (hc:Qg4 c) (h:128≤c) (M:Nat):Va (M+1) [43,35] (c:Int) (M+1)=some (-1):=by
 obtain ⟨l,hl,l1,l2,l3⟩:=Qyq hc h;rw [Va];simp only [hl,Qf,Qp]
 have ew:wrap .i64 ((l.length:Int) - 1)=((l.length - 1:Nat):Int):=by rw [w64 _ (by omega)];omega
 rw [ew]
 by_cases h2:l.length=2
 ·have e1:((l.length - 1:Nat):Int)=((1:Nat):Int):=by rw [h2]
  rw [e1];have e2:idx l ((1:Nat):Int)=some l[1]:=Z3 (by omega);have e3:=l3 l[1] (Md _);generalize l[1]=y at e2 e3
  have e4:decide (((35:UInt8).toNat:Int)≠(y.toNat:Int))=true:=by
   have:(35:UInt8).toNat=35:=rfl;simp only [ne_eq,Ag];omega
  have e5:idx ([43,35]:List UInt8) ((1:Nat):Int)=some 35:=rfl
  have e6:wrap .i64 (((1:Nat):Int)+1)=2:=by decide
  have e7:decide (((1:Nat):Int)<((([43,35]:List UInt8).length:Nat):Int))=true:=by decide
  have e8:decide ((0:Int)≤2)=true:=by decide
  rw [e7,Ai,e5,Ll,e2,Ll,e4,Ai,e6,e8,Ai]
  have e9:(Nat.ble (Int.toNat 2) ([43,35]:List UInt8).length&&Nat.ble ([43,35]:List UInt8).length ([43,35]:List UInt8).length)=true:=by decide
  rw [e9,Ai,Ll];rfl
 have e1:decide (((l.length - 1:Nat):Int)<((([43,35]:List UInt8).length:Nat):Int))=false:=by
  simp;omega
 rw [e1];rfl
theorem Qnd {c:Nat} (hc:Qg4 c):TotP (fun N=>Q2i N [43,35] (c:Int)) (fun v=>decide (v≥0)=decide (c=43∨c=35)):=by
 show TotP (fun N=>cond (Q4 .leq 0 (c:Int)) _ _) _
 have e0:Q4 .leq 0 (c:Int)=true:=by rw [X2];simp
 rw [e0];refine TotP.cond (fun _=>?_) (fun h=>by cases h);unfold Uw;rw [Qf,Q9];refine TotP.cond (fun h=>?_) (fun h=>?_)
 ·have h:c<128:=by have:=Aa h;omega
  have ew:wrap .u8 (c:Int)=c:=by
   rw [IntWalk.u8_in];omega
  refine TotP.bindE (v:=Qea [43,35] (UInt8.ofNat c) 0) (.of fun N=>?_) (.ret ?_)
  ·show ((Zk N [43,35] _).bind fun v=>some v)=_;rw [ew];rfl
  have:=Qxu (UInt8.ofNat c) [43,35] 0;rw [decide_eq_decide];show (0≤_)↔_;rw [this]
  have e1:∀ n,n<256->(UInt8.ofNat c=UInt8.ofNat n↔c=n):=fun n hn=>by
   rw [← Dh,Cw,Cw];omega
  have a:=e1 43 (by omega);have b:=e1 35 (by omega);simp only [Ml,Bc,or_false];exact or_congr a b
 have h:128≤c:=by have:=Ac h;omega
 have hn:decide (c=43∨c=35)=false:=by simp;omega
 refine TotP.cond (fun h1=>?_) (fun h1=>?_)
 ·-- bytes that are none
  refine ⟨-1,by rw [hn];rfl,3,fun N hN=>?_⟩;obtain ⟨M,rfl⟩:∃ M,N=M+3:=⟨N - 3,by omega⟩;exact Z00 M
 refine TotP.bindE (.of (Z30 hc)) ?_;refine TotP.cond (fun h=>by cases h) (fun _=>?_);refine ⟨-1,by rw [hn];rfl,1,fun N hN=>?_⟩;obtain ⟨M,rfl⟩:∃ M,N=M+1:=⟨N - 1,by omega⟩;exact Qzi hc h M
end
end Go.Av
namespace Go.Av
noncomputable section
open Go.Proofs
def Qs5 (s:List UInt8):Bool:=s.any fun b=>b.toNat == 43||b.toNat == 35
theorem Z1f {s:List UInt8} {j:Nat} (hj:j<s.length) (h:at8 s j=43∨at8 s j=35):Qs5 s=true:=by
 unfold Qs5;rw [Nq];refine ⟨s[j],Md _,?_⟩;rw [Qe6 hj] at h
 rcases h with h | h<;>simp [h]
theorem Z0z {s:List UInt8} (h:∀ j,j<s.length->at8 s j≠43∧at8 s j≠35):Qs5 s=false:=by
 unfold Qs5;rw [Da];intro b hb;obtain ⟨j,hj,rfl⟩:=Nh hb;have:=h j hj;rw [Qe6 hj] at this;simp [this.1,this.2]
def asciiS:List Bool:=(List.range 256).map fun n=>n == 43||n == 35
theorem Qwg (n:Nat) (h:n<256):idx asciiS (n:Int)=some (n == 43||n == 35):=by
 have hl:n<asciiS.length:=by simp [asciiS];exact h
 rw [Z3 hl];simp [asciiS]
set_option maxRecDepth 20000 in
theorem Qop (s:List UInt8) (hs:s.length≤maxLen):TotP (fun N=>Q14 N s) (fun v=>decide (v≥0)=Qs5 s):=by
 have hm:=Qci;show TotP (fun N=>cond (Q1l .eql [43,35] []) _ _) _;refine TotP.cond (fun h=>by cases h) (fun _=>?_);refine TotP.bindE (v:=decide ((s.length:Int)>8)) (.of fun N=>rfl) ?_;refine TotP.cond (fun _=>?_) (fun _=>?_)
 ·refine Q70 (L:=fun N n i=>Wg N s n i) s.length (fun i=>∀ j,j<i->at8 s j≠43∧at8 s j≠35) (fun i hi hj=>?_) (fun hj=>?_) (fun j hj=>by omega)
  ·show Stp _ _ _ (fun N n=>cond (Q4 .lss (i:Int) (s.length:Int)) _ _);refine Stp.cond (fun _=>?_) (fun h=>by rw [Qf] at h;have:=Ac h;omega);refine Stp.idx (Z3 hi) ?_;have hb:=Dj s[i];refine Stp.chk (by simp;omega) ?_;refine Stp.idx (Qwg _ (by omega)) ?_;refine Stp.cond (fun h=>?_) (fun h=>?_)
   ·refine Stp.ret ?_;rw [Z1f hi (by rw [Qe6 hi];simpa using h)];simp
   rw [w64 _ (by omega)];refine Stp.go _ ⟨by omega,fun j hj'=>?_⟩
   by_cases e:j=i
   ·subst e;rw [Qe6 hi];simpa using h
   exact hj j (by omega)
  show Stp _ _ _ (fun N n=>cond (Q4 .lss (s.length:Int) (s.length:Int)) _ _);refine Stp.cond (fun h=>by rw [Qf] at h;have:=Aa h;omega) (fun _=>?_);refine Stp.ret ?_;rw [Z0z hj];rfl
 refine Qbi (L:=fun N n (p:Nat)=>We N s n p) (fun p=>∀ j,j<p->at8 s j≠43∧at8 s j≠35) (fun p=>s.length - p) (fun p hp=>?_) 0 (fun j hj=>by omega);show Stp _ _ _ (fun N n=>cond (Nat.blt p s.length) _ _);refine Stp.cond (fun h=>?_) (fun h=>?_)
 ·have hl:p<s.length:=by simpa [Nat.blt_eq] using h
  rw [Qrg];obtain ⟨w1,w2,w3,w4,w5,w6⟩:=Qiq s p hl;refine Stp.bind (Qnd w6) ?_;intro v hv;rw [Xv,hv];refine Stp.cond (fun h=>?_) (fun h=>?_)
  ·have h:=Aa h;have h128:at8 s p<128:=w3.1 (by omega);refine Stp.ret ?_;rw [Z1f hl (by rw [← (w4 h128).1];exact h)];simp
  have h:=Ac h;refine Stp.go _ ⟨fun j hj=>?_,by omega⟩
  by_cases e:j<p
  ·exact hp j e
  by_cases e2:j=p
  ·subst e2
   by_cases h128:at8 s j<128
   ·rw [(w4 h128).1] at h;omega
   omega
  have:=w5 (j - p) (by omega) (by omega);rw [show p+(j - p)=j by omega] at this;omega
 refine Stp.ret ?_;rw [Z0z (fun j hj=>hp j ?_)]
 ·rfl
 have:¬ p<s.length:=fun hlt=>by
  have h':Nat.blt p s.length=true:=by rw [Ch];exact hlt
  rw [h'] at h;cases h
 omega
theorem Qha (s:List UInt8) (hs:s.length≤maxLen):Tot (fun N=>X9 N s) (Qs5 s):=by
 refine TotP.tot ?_;refine TotP.bind (Qop s hs) (fun v hv => .ret ?_);rw [Xv];exact hv
def Q0u (s:List UInt8):Bool:=decide (s ≠ [])&&Vf s && !Qs5 s
theorem Qfg (s:List UInt8) (hs:s.length≤maxLen):Tot (fun N=>Jx N s) (Q0u s):=by
 refine TotP.tot ?_;refine TotP.bindE (Qs3 s) ?_;refine TotP.cond (fun h=>?_) (fun h=>?_)
 ·refine TotP.bindE (Qha s hs) (.ret ?_);unfold Q0u;rw [h];rfl
 exact .ret (by unfold Q0u;rw [h];rfl)
end
end Go.Av
namespace Go.Av
noncomputable section
def Any {R:Type} (f:Nat->Option R):Prop:=TotP f fun _=>True
theorem Qmy (N:Nat) (x a b:Int):Q1j N x a b=some (decide (a≤x)&&decide (x≤b)):=by
 unfold Q1j;rw [Xv,X2]
 by_cases h:a≤x
 ·rw [Ad (p:=x≥a) h];rfl
 rw [Ab (p:=x≥a) h];rfl
section
variable (e:Qd) (lm:Yz) (h1:e.Hops.length≤8) (h2:∀ h∈e.Hops,h.Node.length≤300)
include h1 h2
end
end
end Go.Av
namespace Go.Av
noncomputable section
section
variable {R S T:Type} {L:Nat->Nat->S->Option R} {P:S->Prop} {Q:R->Prop}
theorem Stp.optN {f:Nat->Nat->T->Option R} {z:Nat->Nat->Option R} (h:Stp L P Q z):Stp L P Q (fun N n=>optC none (f N n) (z N n)):=h
theorem Stp.optS {v:T} {f:Nat->Nat->T->Option R} {z:Nat->Nat->Option R} (h:Stp L P Q (fun N n=>f N n v)):Stp L P Q (fun N n=>optC (some v) (f N n) (z N n)):=h
end
theorem Qfd {T:Type} {x:Int} {v:T}:∀ {tab:List (Int×T)},Q5h tab x=some v->(x,v)∈tab
 | (k,w)::r,h=>by
  unfold Q5h at h
  cases hb:x == k with
  | true=>rw [hb] at h;have e:=eq_of_beq hb;subst e;cases h;exact Bn
  | false=>rw [hb] at h;exact Bi _ (Qfd h)
 | [],h=>nomatch h
theorem Qzu {x:Int} {v:Qu} (h:Q5h F_prop_rules_tab x=some v):1≤x∧x≤42:=by
 have hall:(F_prop_rules_tab.all fun q=>decide (1≤q.1)&&decide (q.1≤42))=true:=by decide +kernel
 have:=Me.1 hall _ (Qfd h);simpa using this
end
end Go.Av
namespace Go.Av
noncomputable section
theorem Qja (l:List Q6) (hb:l.length≤maxLen):TotP (fun N=>Zm N l) (fun v=>v=true->l.length≤30∧∀ p∈l,p.Text.length≤300∧p.Value.length≤300):=by
 have hm:=Qci
 ·refine Q70 (L:=fun N n s=>Yi N l n s) l.length (fun i=>∀ j (h:j<l.length),j<i->(l[j]).Text.length≤300∧(l[j]).Value.length≤300) (fun i hi hj=>?_) (fun hj=>?_) (fun j _ hj=>by omega)
  ·show Stp _ _ _ (fun N n=>cond (Q4 .lss (i:Int) ((Q7 Q6.cells l).length:Int)) _ _);rw [Q3,Qf];refine Stp.cond (fun _=>?_) (fun h=>by have:=Ac h;omega);refine Stp.idx (Z3 hi) ?_;rw [Qx];refine Stp.cond (fun _=>Stp.ret (fun h=>nomatch h)) (fun h1=>?_);refine Stp.idx (Z3 hi) ?_;rw [Qx];refine Stp.cond (fun _=>Stp.ret (fun h=>nomatch h)) (fun h2=>?_);have h1:=Ac h1;have h2:=Ac h2;rw [w64 _ (by omega)];refine Stp.go (L:=fun N n s=>Yi N l n s) _ ⟨by omega,fun j hj' hji=>?_⟩
   by_cases e:j=i
   ·subst e;constructor<;>omega
   exact hj j hj' (by omega)
  show Stp _ _ _ (fun N n=>cond (Q4 .lss (l.length:Int) ((Q7 Q6.cells l).length:Int)) _ _);rw [Q3,Qf];refine Stp.cond (fun h=>by have:=Aa h;omega) (fun _=>Stp.ret (fun h=>⟨?_,fun p hp=>?_⟩))
  ·rw [X2] at h;have:=Aa h;omega
  obtain ⟨j,hj',rfl⟩:=Nh hp;exact hj j hj' hj'
theorem Z85 (x:Int):wrap .i64 x≤9223372036854775807:=by rw [IntKind.wrap_i64];omega
theorem Qvt:∀ (k:Nat) (v:Q2) (deep most:Int),deep<(k:Int)->-1≤deep->deep≤1000->most≤9223372036854775807->Any (fun N=>Y8 N v deep most):=by
 intro k
 induction k with
 | zero=>
  intro v deep most h _ _ _;refine ⟨wrap .i64 (most+1),trivial,1,fun N hN=>?_⟩;obtain ⟨M,rfl⟩:∃ M,N=M+1:=⟨N - 1,by omega⟩;show cond (Q4 .lss deep 0) _ _=_;rw [Qf,Ad (by omega)];rfl
 | succ k ih=>
  intro v deep most h hd hdm hm
  have body:Any (fun N=>Q0l (Y8 N) N v deep most):=by
   refine TotP.cond (fun _ => .ret trivial) (fun h1=>?_);refine TotP.cond (fun _ => .ret trivial) (fun h2=>?_);refine TotP.cond (fun _ => .ret trivial) (fun _=>?_);rw [Qf] at h1;rw [Q2.rows_eq,Q3,Qx] at h2;have h1:=Ac h1;have h2:=Ac h2;have:=Qbi (L:=fun N n (p:Int×Int)=>Yn (Y8 N) N v deep most n p.1 p.2) (Q:=fun _=>True) (fun p=>∃ i:Nat,p.2=(i:Int)∧i≤v.Items.length) (fun p=>v.Items.length - p.2.toNat) ?_ (1,0) ⟨0,rfl,by omega⟩
   ·exact this
   rintro ⟨q,s⟩ ⟨i,hs,hi⟩
   simp only at hs
   subst hs;show Stp _ _ _ (fun N n=>cond (Q4 .lss (i:Int) ((Q2.rows v.Items).length:Int)) _ _);rw [Q2.rows_eq,Q3,Qf];refine Stp.cond (fun h=>?_) (fun _=>Stp.ret trivial);have h:=Aa h
   have hi:i<v.Items.length:=by omega
   refine Stp.cond (fun _=>?_) (fun _=>Stp.ret trivial);refine Stp.idx (Z3 hi) ?_;rw [w64 (deep - 1) (by omega)];refine Stp.bind (f:=fun N=>Y8 N (v.Items[i]) (deep - 1) (wrap .i64 (most - q))) (V:=fun _=>True) (ih v.Items[i] (deep - 1) (wrap .i64 (most - q)) (by omega) (by omega) (by omega) (Z85 (most - q))) (fun w _=>?_);rw [w64 ((i:Int)+1) (by omega)];refine Stp.go (L:=fun N n (p:Int×Int)=>Yn (Y8 N) N v deep most n p.1 p.2) (_,_) ⟨⟨i+1,by simp only;omega,by omega⟩,by simp only;omega⟩
  obtain ⟨r,_,N0,hN⟩:=body;refine ⟨r,trivial,N0+1,fun N h=>?_⟩;obtain ⟨M,rfl⟩:∃ M,N=M+1:=⟨N - 1,by omega⟩;exact hN M (by omega)
theorem Qwx (f:Y2):Any (fun N=>Yo N f):=by
 refine TotP.cond (fun _ => .ret trivial) (fun h0=>?_);rw [Q2.rows_eq,Q3,Qx] at h0;have h0:=Ac h0;refine TotP.cond (fun _ => .ret trivial) (fun _=>?_);refine Q70 (L:=fun N n s=>Zh N f n s) f.Values.length (fun _=>True) (fun i hi _=>?_) (fun _=>?_) trivial
 ·show Stp _ _ _ (fun N n=>cond (Q4 .lss (i:Int) ((Q2.rows f.Values).length:Int)) _ _);rw [Q2.rows_eq,Q3];refine Stp.cond (fun _=>?_) (fun _=>Stp.ret trivial);refine Stp.idx (Z3 hi) ?_;refine Stp.bind (V:=fun _=>True) (TotP.bind (Qvt 7 _ 6 40 (by decide) (by decide) (by decide) (by decide)) (fun _ _ => .ret trivial)) (fun _ _=>?_);refine Stp.cond (fun _=>Stp.ret trivial) (fun _=>?_);rw [w64 _ (by omega)];exact Stp.go (L:=fun N n s=>Zh N f n s) _ ⟨by omega,trivial⟩
 show Stp _ _ _ (fun N n=>cond (Q4 .lss (f.Values.length:Int) ((Q2.rows f.Values).length:Int)) _ _);rw [Q2.rows_eq,Q3];refine Stp.cond (fun h=>by rw [Qf] at h;have:=Aa h;omega) (fun _=>Stp.ret trivial)
structure OkE (e:Qd):Prop where
 topic:e.Topic.length≤maxLen
 props:e.Props.length≤maxLen
 filters:e.Packet.Filters.length≤maxLen
 pprops:e.Packet.Props.length≤maxLen
 wprops:e.Packet.Will.Props.length≤maxLen
structure LightE (e:Qd):Prop where
 topic:e.Topic.length≤2000
 payload:e.Payload.length≤2000
 props:e.Props.length≤30∧∀ p∈e.Props,p.Text.length≤300∧p.Value.length≤300
 hops:e.Hops.length≤8∧∀ h∈e.Hops,h.Node.length≤300
def Lv (o:Option Int) (P:Prop):Prop:=∃ v,o=some v∧(v=0->P)
theorem Lv.of {v:Int} {P:Prop} (h:P):Lv (some v) P:=⟨v,rfl,fun _=>h⟩
theorem Lv.no {v:Int} {P:Prop} (h:v≠0):Lv (some v) P:=⟨v,rfl,fun e=>absurd e h⟩
theorem Lv.cond {b:Bool} {x y:Option Int} {P:Prop} (h1:Lv x P) (h2:Lv y P):Lv (cond b x y) P:=by cases b<;>assumption
structure PubE (e:Qd):Prop where
 proto:e.Proto=1∨e.Proto=2∨e.Proto=3∨e.Proto=4
 kind:e.Kind=1
 qos:e.QoS = -1∨e.QoS=0∨e.QoS=1∨e.QoS=2
theorem Qzm (N:Nat) (p:Int):Q61 N p=some (decide (p=1∨p=2∨p=3∨p=4)):=by
 by_cases h:p=1∨p=2∨p=3∨p=4
 ·rw [Ad h];rcases h with rfl | rfl | rfl | rfl<;>rfl
 have h0:Q5h Q33 p=none:=by
  have h1:(p == 1)=false:=by simp;omega
  have h2:(p == 2)=false:=by simp;omega
  have h3:(p == 3)=false:=by simp;omega
  have h4:(p == 4)=false:=by simp;omega
  unfold Q33;simp only [Q5h,h1,h2,h3,h4,Ah]
 unfold Q61;rw [h0,Ab h];rfl
end
end Go.Av
namespace Go.Av
noncomputable section
open Go.Proofs
theorem Q5j {α:Type} (b:Bool) (x y : α):cond b x y=if b=true then x else y:=by cases b<;>rfl
@[simp] theorem Qp0 (x y:Int):(Q4 .lss x y=true)=(x<y):=by simp [Q4]
@[simp] theorem Z3h (x y:Int):(Q4 .leq x y=true)=(x≤y):=by simp [Q4]
@[simp] theorem Z70 (x y:Int):(Q4 .gtr x y=true)=(x>y):=by simp [Q4]
@[simp] theorem Zwo (x y:Int):(Q4 .geq x y=true)=(x≥y):=by simp [Q4]
@[simp] theorem Zva (x y:Int):(Q4 .eql x y=true)=(x=y):=by simp [Q4]
@[simp] theorem Qz2 (x y:Int):(Q4 .neq x y=true)=(x≠y):=by simp [Q4]
theorem Q8o (x:Int) (h : -9223372036854775808≤x∧x≤9223372036854775807):wrap .i64 x=x:=IntWalk.i64_in x h
mutual
def Q2.sz:Q2->Nat
 | .mk _ _ _ is=>1+Q2.szs is
def Q2.szs:List Q2->Nat
 | []=>0
 | v::l=>v.sz+Q2.szs l
end
theorem Q2.sz_eq (v:Q2):v.sz=1+Q2.szs v.Items:=by cases v;simp [Q2.sz]
theorem Q2.szs_len:∀ l:List Q2,l.length≤Q2.szs l
 | []=>by simp
 | v::l=>by
  have h1:=Q2.szs_len l;have h2:=Q2.sz_eq v;simp only [Q2.szs,Li];omega
theorem Q2.szs_mem:∀ (l:List Q2) (v:Q2),v∈l->v.sz≤Q2.szs l
 | [],v,h=>by cases h
 | u::l,v,h=>by
  simp only [Q2.szs]
  rcases Ml.1 h with rfl | h
  ·omega
  have:=Q2.szs_mem l v h;omega
noncomputable instance:DecidableEq Q2:=fun a b=>Classical.propDecidable (a=b)
theorem Q2o (l:List Q2):(Q2.rows l).length=l.length:=by rw [Q2.rows_eq,Q3]
theorem Qaf {α:Type} (l:List α) (i:Nat):idx l (i:Int)=l[i]? := rfl
theorem Qi6 (x y:List UInt8):(Q1l .neq x y=true)=(x≠y):=by simp [Q1l]
end
end Go.Av
namespace Go.Av
noncomputable section
open Go.Proofs
mutual
def Q2.txt:Q2->Prop
 | .mk _ _ t is=>t.length≤400∧Q2.txts is
def Q2.txts:List Q2->Prop
 | []=>True
 | v::l=>v.txt∧Q2.txts l
end
theorem Q2.txt_eq (v:Q2):v.txt=(v.Text.length≤400∧Q2.txts v.Items):=by cases v;simp [Q2.txt]
theorem Q2.szs_app:∀ l m:List Q2,Q2.szs (l++m)=Q2.szs l+Q2.szs m
 | [],m=>by simp [Q2.szs]
 | v::l,m=>by simp [Q2.szs,Q2.szs_app l m];omega
theorem Q2.txts_app:∀ l m:List Q2,Q2.txts (l++m)=(Q2.txts l∧Q2.txts m)
 | [],m=>by simp [Q2.txts]
 | v::l,m=>by simp [Q2.txts,Q2.txts_app l m,and_assoc]
theorem Qsu {R:Q2->Int->Int->Option Int} {N:Nat} {v:Q2} {deep most:Int} (hd:0≤deep∧deep≤6) (hm:0≤most∧most≤40) (hl:(v.Items.length:Int)≤most)
  (hR:∀ y (m:Int),0≤m->m≤40->∃ r,R y (deep - 1) m=some r∧1≤r∧r≤m+1∧(r≤m->r=y.sz∧y.txt)):∀ (n:Nat) (k:Int) (i:Nat),i≤v.Items.length->v.Items.length - i<n ->
  1≤k->k≤most+1->(k≤most->k=1+Q2.szs (v.Items.take i)∧Q2.txts (v.Items.take i)) ->
  ∃ r,Yn R N v deep most n k (i:Int)=some r∧1≤r∧r≤most+1∧(r≤most->r=1+Q2.szs v.Items∧Q2.txts v.Items)
 | 0,_,_,_,h,_,_,_=>by omega
 | n+1,k,i,h1,h2,hk1,hk2,hk3=>by
  simp only [Yn,Q5j,Qp0,Z3h,Q2o]
  by_cases hi:i<v.Items.length
  ·rw [Af (by omega)]
   by_cases hkm:k≤most
   ·rw [Af hkm,Qaf,Ld hi,Q8o (deep - 1) (by omega),Q8o (most - k) (by omega)];obtain ⟨r,r1,r2,r3,r4⟩:=hR v.Items[i] (most - k) (by omega) (by omega);simp only [Ll,r1];rw [Q8o (k+r) (by omega),Q8o ((i:Int)+1) (by omega)]
    have:=Qsu (N:=N) hd hm hl hR n (k+r) (i+1) (by omega) (by omega) (by omega) (by omega) (fun h=>by
     obtain ⟨q1,q2⟩:=r4 (by omega);obtain ⟨q3,q4⟩:=hk3 hkm;rw [List.take_succ_eq_append_getElem hi,Q2.szs_app,Q2.txts_app];refine ⟨?_,q4,?_⟩
     ·simp only [Q2.szs];omega
     simp only [Q2.txts];exact ⟨q2,trivial⟩)
    exact_mod_cast this
   rw [Ae hkm];exact ⟨k,rfl,hk1,hk2,fun h=>absurd h hkm⟩
  rw [Ae (by omega)];refine ⟨k,rfl,hk1,hk2,fun h=>?_⟩;have:=hk3 h
  rwa [Ms (by omega)] at this
theorem Ql9:∀ (N:Nat) (v:Q2) (deep most:Int),-1≤deep->deep≤6->0≤most->most≤40->deep+50<N ->
  ∃ r,Y8 N v deep most=some r∧1≤r∧r≤most+1∧(r≤most->r=v.sz∧v.txt)
 | 0,v,deep,most,h1,h2,h3,h4,h5=>by omega
 | N+1,v,deep,most,h1,h2,h3,h4,h5=>by
  simp only [Y8,Q0l,Q5j,Qp0,Z70,Q2o,Q8o (most+1) (show _ by omega)]
  by_cases e1:deep<0
  ·rw [Af e1];exact ⟨_,rfl,by omega,by omega,fun h=>by omega⟩
  rw [Ae e1]
  by_cases e2:(v.Items.length:Int)>most
  ·rw [Af e2];exact ⟨_,rfl,by omega,by omega,fun h=>by omega⟩
  rw [Ae e2]
  by_cases e3:(v.Text.length:Int)>400
  ·rw [Af e3];exact ⟨_,rfl,by omega,by omega,fun h=>by omega⟩
  rw [Ae e3];have:=Qsu (N:=N) (R:=Y8 N) (v:=v) (deep:=deep) (most:=most) ⟨by omega,h2⟩ ⟨h3,h4⟩ (by omega)
   (fun y m hm1 hm2=>Ql9 N y (deep - 1) m (by omega) (by omega) hm1 hm2 (by omega)) N 1 0 (by omega) (by omega) (by omega) (by omega) (fun _=>by simp [Q2.szs,Q2.txts])
  obtain ⟨r,r1,r2,r3,r4⟩:=this;refine ⟨r,r1,r2,r3,fun h=>?_⟩;obtain ⟨q1,q2⟩:=r4 h;have hs:=v.sz_eq;rw [Q2.txt_eq];exact ⟨by omega,by omega,q2⟩
theorem Qtn (N:Nat) (v:Q2) (h:60<N):∃ b,Vy N v=some b∧(b=true->v.sz≤40∧v.txt):=by
 obtain ⟨r,r1,r2,r3,r4⟩:=Ql9 N v 6 40 (by omega) (by omega) (by omega) (by omega) (by omega);refine ⟨Q4 .leq r 40,by simp [Vy,r1],fun h=>?_⟩;rw [Z3h] at h;obtain ⟨q1,q2⟩:=r4 h;exact ⟨by omega,q2⟩
end
end Go.Av
namespace Go.Av
noncomputable section
open Go.Proofs
def Z79 (k:Int):Int×Bool:=
 if k=2 then (1,false) else if k=3 then (8,false) else if k=4 then (16,false)
 else if k=5∨k=11∨k=13∨k=16 then (32,false) else if k=6∨k=12∨k=14 then (64,false)
 else if k=7 then (8,true) else if k=8 then (16,true) else if k=9 then (32,true) else if k=10∨k=17 then (64,true) else (0,false)
def Z7j (k:Int):Bool:=decide (k=15∨k=18∨k=19∨k=20∨k=21)
theorem Qip (m:Nat):(1:Int)≤2 ^ m:=by
 have:=Nat.one_le_two_pow (n:=m)
 exact_mod_cast this
end
end Go.Av
namespace Go.Av
noncomputable section
def Qbq:Nat->Nat->List UInt8
 | _,0 => []
 | n,w+1=>Qbq (n / 256) w ++ [UInt8.ofNat (n % 256)]
theorem Xr:∀ (w n:Nat),(Qbq n w).length=w
 | 0,_=>rfl
 | w+1,n=>by simp [Qbq,Xr w]
end
end Go.Av
namespace Go.Av
noncomputable section
open Go.Proofs
end
end Go.Av
namespace Go.Av
noncomputable section
open Go.Proofs
set_option maxRecDepth 100000
theorem Qyi (n:Nat) (h:n<18446744073709551616):IntKind.u64.wrap (n:Int)=n:=by
 simp only [wrap,IntKind.bits,IntKind.signed]
 simp;omega
set_option maxRecDepth 100000 in
end
end Go.Av
namespace Go.Av
noncomputable section
open Go.Proofs
set_option maxRecDepth 100000
end
end Go.Av
namespace Go.Av
noncomputable section
open Go.Proofs
set_option maxRecDepth 100000
def okU (n:Int):Prop:=0≤n∧n<18446744073709551616
end
end Go.Av
namespace Go.Av
noncomputable section
open Go.Proofs
set_option maxRecDepth 100000
theorem Qlw:∀ (w n:Nat),Qbq n (w+1)=UInt8.ofNat (n / 256 ^ w % 256)::Qbq n w
 | 0,n=>by simp [Qbq]
 | w+1,n=>by
  rw [Qbq,Qlw w (n / 256),Qbq,Bb,Nat.div_div_eq_div_mul,Nat.pow_succ,Dd 256]
def Z37 (n:Nat):Nat->List Int
 | 0 => []
 | w+1=>((n / 256 ^ w % 256:Nat):Int)::Z37 n w
theorem Qt2 (n:Nat):∀ w,(Z37 n w).map (fun n=>UInt8.ofNat n.toNat)=Qbq n w
 | 0=>rfl
 | w+1=>by rw [Z37,Nr,Qt2 n w,Qlw];rfl
theorem Z49 (m:Nat) (x:Int) (t:List Int):(List.replicate (m+1) (0:Int)++t).set m x=List.replicate m 0++(x::t):=by
 rw [List.replicate_succ',Lq,List.set_append_right _ _ (by simp)];simp
theorem Qpz (x:Int):IntKind.u8.wrap x=x % 256:=by simp [wrap,IntKind.bits,IntKind.signed]
theorem Z0g (N n w:Nat) (hn:n<18446744073709551616) (hw:w≤8):∀ (k i:Nat),i≤w->w - i<k->Q03 N (n:Int) (w:Int) k (i:Int) (List.replicate (w - i) 0++Z37 n i)=some (Qbq n w)
 | 0,i,h,h2=>by omega
 | k+1,i,h,h2=>by
  have e1:ifB (decide ((16:Int)<(w:Int))) (16:Int) (w:Int)=w:=by rw [Ab (by omega)];rfl
  simp only [Q03,Q5j,Qp0,e1]
  by_cases hi:i<w
  ·rw [Af (by omega),Af (by omega)]
   have e2:IntKind.i64.wrap (8 * (i:Int))=((8 * i:Nat):Int):=by rw [Q8o _ (by omega)];push_cast;rfl
   have e3:IntKind.u64.wrap ((8 * i:Nat):Int)=((8 * i:Nat):Int):=Qyi _ (by omega)
   have e4:IntKind.i64.wrap (IntKind.i64.wrap ((w:Int) - 1) - (i:Int))=((w - i - 1:Nat):Int):=by
    rw [Q8o ((w:Int) - 1) (by omega),Q8o _ (by omega)];omega
   rw [e2,e3,e4,Af (Ad (Cv _))]
   have hlen:(List.replicate (w - i) (0:Int)++Z37 n i).length≥w - i:=by simp
   rw [Qaf,Ld (by omega)];simp only [Ll]
   have e5:IntKind.u8.wrap (Qdb .u64 (n:Int) ((8 * i:Nat):Int))=((n / 256 ^ i % 256:Nat):Int):=by
    rw [Qpz];simp only [Qdb]
    have:min (((8 * i:Nat):Int).toNat) IntKind.u64.bits=8 * i:=by simp [IntKind.bits];omega
    rw [this,Cz _ (by have:=Qip (8 * i);omega)];have e0:(2:Nat) ^ (8 * i)=256 ^ i:=Nat.pow_mul 2 8 i
    have e:((2:Int) ^ (8 * i))=((256 ^ i:Nat):Int):=by rw [← e0];push_cast;rfl
    rw [e]
    push_cast
    rfl
   rw [e5,show Int.toNat ((w - i - 1:Nat):Int)=w - i - 1 from rfl,Q8o _ (by omega)];obtain ⟨m,hm⟩:∃ m,w - i=m+1:=⟨w - i - 1,by omega⟩;have h3:=Z0g N n w hn hw k (i+1) (by omega) (by omega);rw [show w - (i+1)=m by omega,Z37] at h3;rw [hm,Nat.add_sub_cancel,Z49]
   exact_mod_cast h3
  rw [Ae (by omega)]
  have:i=w:=by omega
  subst this;rw [Cm,List.replicate_zero,Mx,Qt2]
theorem Z26 (N n w:Nat) (hn:n<18446744073709551616) (hw:w≤8) (hN:10<N):X4 N (n:Int) (w:Int)=some (Qbq n w):=by
 have e1:ifB (decide ((16:Int)<(w:Int))) (16:Int) (w:Int)=w:=by rw [Ab (by omega)];rfl
 simp only [X4,Q5j,Z3h,e1]
 by_cases h0:(w:Int)≤0
 ·rw [Af h0]
  have:w=0:=by omega
  subst this;rfl
 rw [Ae h0,Af (by simp;omega)];have:=Z0g N n w hn hw N 0 (by omega) (by omega);simpa [Z37] using this
end
end Go.Av
namespace Go.Av
noncomputable section
open Go.Proofs
set_option maxRecDepth 100000
structure Well (code:Int) (c:Qv5):Prop where
 code:c.Code=code
 kind:1≤c.Kind∧c.Kind≤25
 items:c.Items=decide (22≤c.Kind)
 sized:c.Items=false->c.Sized=true->(c.Width=1∨c.Width=4)∧19≤c.Kind∧c.Kind≤21∧c.Code≠65
 wide:c.Items=false->c.Sized=false->c.Width=16->(c.Kind=15∨c.Kind=18)∧c.Code≠65
 num:c.Items=false->c.Sized=false->c.Width≠16->Z7j c.Kind=false∧(c.Width=0∨c.Width=1∨c.Width=2∨c.Width=4∨c.Width=8)∧(c.Code=65->c.Width=0∧c.Kind=2)∧(2≤c.Width->(Z79 c.Kind).1=8 * c.Width)
end
end Go.Av
namespace Go.Av
noncomputable section
open Go.Proofs
set_option maxRecDepth 100000
inductive Z8n (c:Qv5):Prop
 | sized (w:Nat) (hs:c.Sized=true) (hw:c.Width=w) (h:w=1∨w=4) (hk:19≤c.Kind∧c.Kind≤21) (hc:c.Code≠65)
 | wide (hs:c.Sized=false) (hw:c.Width=16) (hk:c.Kind=15∨c.Kind=18) (hc:c.Code≠65)
 | num (w:Nat) (hs:c.Sized=false) (hw:c.Width=w) (h:w=0∨w=1∨w=2∨w=4∨w=8) (ht:Z7j c.Kind=false) (hc:c.Code=65->w=0∧c.Kind=2) (hb:2≤w->(Z79 c.Kind).1=8 * w)
theorem Well.shape {code:Int} {c:Qv5} (h:Well code c) (hi:c.Items=false):Z8n c:=by
 cases hs:c.Sized with
 | true=>
  obtain ⟨h1,h2,h3,h4⟩:=h.sized hi hs
  rcases h1 with h1 | h1
  ·exact .sized 1 hs h1 (.inl rfl) ⟨h2,h3⟩ h4
  exact .sized 4 hs h1 (.inr rfl) ⟨h2,h3⟩ h4
 | false=>
  by_cases h16:c.Width=16
  ·obtain ⟨h1,h2⟩:=h.wide hi hs h16;exact .wide hs h16 h1 h2
  obtain ⟨h1,h2,h3,h4⟩:=h.num hi hs h16
  have hw:c.Width=(c.Width.toNat:Nat):=by omega
  refine .num c.Width.toNat hs hw (by omega) h1 (fun hc=>?_) (fun hb=>?_)
  ·obtain ⟨q1,q2⟩:=h3 hc;exact ⟨by omega,q2⟩
  have:=h4 (by omega);omega
end
end Go.Av
namespace Go.Av
noncomputable section
open Go.Proofs
set_option maxRecDepth 100000
theorem Q2.ext' {v w:Q2} (h1:v.Kind=w.Kind) (h2:v.N'=w.N') (h3:v.Text=w.Text) (h4:v.Items=w.Items):v=w:=by
 cases v;cases w;simp_all
end
end Go.Av
namespace Go.Av
noncomputable section
open Go.Proofs
set_option maxRecDepth 100000
end
end Go.Av
namespace Go.Av
noncomputable section
open Go.Proofs
set_option maxRecDepth 100000
end
end Go.Av
namespace Go.Av
noncomputable section
open Go.Proofs
set_option maxRecDepth 100000
theorem kinds {k:Int} (h:1≤k∧k≤21):k=1∨k=2∨k=3∨k=4∨k=5∨k=6∨k=7∨k=8∨k=9∨k=10∨k=11∨k=12∨k=13∨k=14∨k=15∨k=16∨k=17∨k=18∨k=19∨k=20∨k=21:=by omega
end
end Go.Av
namespace Go.Av
noncomputable section
open Go.Proofs
set_option maxRecDepth 100000
end
end Go.Av
namespace Go.Av
noncomputable section
open Go.Proofs
set_option maxRecDepth 100000
end
end Go.Av
namespace Go.Av
noncomputable section
open Go.Proofs
set_option maxRecDepth 100000
theorem Z0n {P:Q2->Prop} (h:∀ v,(∀ x∈v.Items,P x)->P v):∀ (n:Nat) (v:Q2),v.sz≤n->P v
 | 0,v,hn=>by have:=v.sz_eq;omega
 | n+1,v,hn=>h v (fun x hx=>Z0n h n x (by have:=v.sz_eq;have:=Q2.szs_mem _ x hx;omega))
theorem Q2.ind {P:Q2->Prop} (h:∀ v,(∀ x∈v.Items,P x)->P v) (v:Q2):P v:=Z0n h v.sz v (Lj _)
theorem Qrv {R:Q2->Q2->Option Bool} {N:Nat} {a b:Q2} (hlen:a.Items.length=b.Items.length) (hb:a.Items.length<4611686018427387904)
  (hR:∀ y∈a.Items,∀ z,R y z=some (decide (y=z))):∀ (n i:Nat),i≤a.Items.length->a.Items.length - i<n ->
  Ug R N a b n (i:Int)=some (decide (a.Items.drop i=b.Items.drop i))
 | 0,i,_,h=>by omega
 | n+1,i,h1,h2=>by
  simp only [Ug,Q5j,Qp0,Q2o]
  by_cases hi:i<a.Items.length
  ·rw [Af (by omega),Qaf,Qaf,Ld hi,Ld (show i<b.Items.length by omega)];simp only [Ll,hR _ (Md hi)];rw [Q8o _ (by omega)];have ih:=Qrv (N:=N) hlen hb hR n (i+1) (by omega) (by omega);rw [Mp hi,Mp (show i<b.Items.length by omega)]
   by_cases he:a.Items[i]=b.Items[i]
   ·rw [← he];simp only [decide_true,Bw,Mg,Al,Ca,true_and]
    exact_mod_cast ih
   have hne:¬ (a.Items[i]::List.drop (i+1) a.Items=b.Items[i]::List.drop (i+1) b.Items):=fun e=>he (List.cons.inj e).1;simp only [he,decide_false,Bool.not_false,Ak];rw [Ab hne]
  rw [Ae (by omega),Lz (by omega),Lz (by omega)];simp
theorem Qw5:∀ (N:Nat) (a b:Q2),a.sz<N->a.sz<1000000000->Q0e N a b=some (decide (a=b))
 | 0,a,b,h,_=>by have:=a.sz_eq;omega
 | N+1,a,b,h,h2=>by
  have hs:=a.sz_eq;have hl:=Q2.szs_len a.Items;simp only [Q0e,Q5b,Q5j,Qz2,Qi6,Q2o]
  by_cases e1:a.Kind=b.Kind
  ·by_cases e2:a.N'=b.N'
   ·by_cases e3:a.Text=b.Text
    ·by_cases e4:a.Items.length=b.Items.length
     ·rw [Ae (by simp [e1]),Ae (by simp [e2]),Ae (by simp [e3]),Ae (by simp [e4])];have:=Qrv (N:=N) (R:=Q0e N) e4 (by omega) (fun y hy z=>Qw5 N y z (by have:=Q2.szs_mem _ y hy;omega) (by have:=Q2.szs_mem _ y hy;omega)) N 0 (by omega) (by omega);rw [show (0:Int)=((0:Nat):Int) from rfl,this];cases a;cases b;simp_all
     rw [Ae (by simp [e1]),Ae (by simp [e2]),Ae (by simp [e3]),Af (by omega)];have:a≠b:=fun e=>e4 (by rw [e]);simp [this]
    rw [Ae (by simp [e1]),Ae (by simp [e2]),Af (by simpa using e3)];have:a≠b:=fun e=>e3 (by rw [e]);simp [this]
   rw [Ae (by simp [e1]),Af (by simpa using e2)];have:a≠b:=fun e=>e2 (by rw [e]);simp [this]
  rw [Af (by simpa using e1)];have:a≠b:=fun e=>e1 (by rw [e]);simp [this]
end
end Go.Av
namespace Go.Av
noncomputable section
open Go.Proofs
set_option maxRecDepth 100000
open Classical in
inductive Fine:Q2->Prop
 | mk (v:Q2) (hn:okU v.N') (ht:v.Text.length≤300000) (hi:∀ x∈v.Items,Fine x):Fine v
theorem Fine.num {v:Q2} (h:Fine v):okU v.N':=by cases h;assumption
theorem Fine.text {v:Q2} (h:Fine v):v.Text.length≤300000:=by cases h;assumption
theorem Fine.items {v:Q2} (h:Fine v):∀ x∈v.Items,Fine x:=by cases h;assumption
theorem Qm6:∀ (l:List Q2),Q2.txts l->∀ x∈l,x.txt
 | v::l,h,x,hx=>by
  simp only [Q2.txts] at h
  rcases Ml.1 hx with rfl | hx
  ·exact h.1
  exact Qm6 l h.2 x hx
theorem Z2p (v:Q2) (hv:OkV v) (ht:v.txt):Fine v:=by
 induction v using Q2.ind with
 | h v ih=>
  rw [Q2.txt_eq] at ht;exact .mk v hv.num (by omega) (fun x hx=>ih x hx (hv.items x hx) (Qm6 _ ht.2 x hx))
end
end Go.Av
namespace Go.Av
noncomputable section
open Go.Proofs
set_option maxRecDepth 100000
end
end Go.Av
namespace Go.Av
noncomputable section
open Go.Proofs
set_option maxRecDepth 100000
end
end Go.Av
namespace Go.Av
noncomputable section
open Go.Proofs
set_option maxRecDepth 100000
end
end Go.Av
namespace Go.Av
noncomputable section
open Go.Proofs
set_option maxRecDepth 100000
end
end Go.Av
namespace Go.Av
noncomputable section
open Go.Proofs
set_option maxRecDepth 100000
end
end Go.Av
namespace Go.Av
noncomputable section
open Go.Proofs
set_option maxRecDepth 100000
end
end Go.Av
namespace Go.Av
noncomputable section
open Go.Proofs
set_option maxRecDepth 100000
end
end Go.Av
namespace Go.Av
noncomputable section
open Go.Proofs
set_option maxRecDepth 100000
theorem Qlm {R:Q2->Q2->Option Bool} {N:Nat} {a b:Q2} (hlen:a.Items.length=b.Items.length) (hb:a.Items.length<4611686018427387904)
  (hR:∀ y∈a.Items,∀ z,R y z=some (decide (y=z))):∀ (n i:Nat),i≤a.Items.length->a.Items.length - i<n ->
  Xt R N a b n (i:Int)=some (decide (a.Items.drop i=b.Items.drop i))
 | 0,i,_,h=>by omega
 | n+1,i,h1,h2=>by
  simp only [Xt,Q5j,Qp0,Q2o]
  by_cases hi:i<a.Items.length
  ·rw [Af (by omega),Qaf,Qaf,Ld hi,Ld (show i<b.Items.length by omega)];simp only [Ll,hR _ (Md hi)];rw [Q8o _ (by omega)];have ih:=Qlm (N:=N) hlen hb hR n (i+1) (by omega) (by omega);rw [Mp hi,Mp (show i<b.Items.length by omega)]
   by_cases he:a.Items[i]=b.Items[i]
   ·rw [← he];simp only [decide_true,Bw,Mg,Al,Ca,true_and]
    exact_mod_cast ih
   have hne:¬ (a.Items[i]::List.drop (i+1) a.Items=b.Items[i]::List.drop (i+1) b.Items):=fun e=>he (List.cons.inj e).1;simp only [he,decide_false,Bool.not_false,Ak];rw [Ab hne]
  rw [Ae (by omega),Lz (by omega),Lz (by omega)];simp
theorem Ql6:∀ (N:Nat) (a b:Q2),a.sz<N->a.sz<1000000000->V0 N a b=some (decide (a=b))
 | 0,a,b,h,_=>by have:=a.sz_eq;omega
 | N+1,a,b,h,h2=>by
  have hs:=a.sz_eq;have hl:=Q2.szs_len a.Items;simp only [V0,Q1q,Q5j,Qz2,Qi6,Q2o]
  by_cases e1:a.Kind=b.Kind
  ·by_cases e2:a.N'=b.N'
   ·by_cases e3:a.Text=b.Text
    ·by_cases e4:a.Items.length=b.Items.length
     ·rw [Ae (by simp [e1]),Ae (by simp [e2]),Ae (by simp [e3]),Ae (by simp [e4])];have:=Qlm (N:=N) (R:=V0 N) e4 (by omega) (fun y hy z=>Ql6 N y z (by have:=Q2.szs_mem _ y hy;omega) (by have:=Q2.szs_mem _ y hy;omega)) N 0 (by omega) (by omega);rw [show (0:Int)=((0:Nat):Int) from rfl,this];cases a;cases b;simp_all
     rw [Ae (by simp [e1]),Ae (by simp [e2]),Ae (by simp [e3]),Af (by omega)];have:a≠b:=fun e=>e4 (by rw [e]);simp [this]
    rw [Ae (by simp [e1]),Ae (by simp [e2]),Af (by simpa using e3)];have:a≠b:=fun e=>e3 (by rw [e]);simp [this]
   rw [Ae (by simp [e1]),Af (by simpa using e2)];have:a≠b:=fun e=>e2 (by rw [e]);simp [this]
  rw [Af (by simpa using e1)];have:a≠b:=fun e=>e1 (by rw [e]);simp [this]
open Classical in
end
end Go.Av
namespace Go.Av
noncomputable section
open Go.Proofs
set_option maxRecDepth 100000
end
end Go.Av
namespace Go.Av
noncomputable section
open Go.Proofs
set_option maxRecDepth 100000
end
end Go.Av
namespace Go.Av
noncomputable section
open Go.Proofs
set_option maxRecDepth 100000
end
end Go.Av
namespace Go.Av
noncomputable section
open Go.Proofs
set_option maxRecDepth 100000
end
end Go.Av
namespace Go.Av
noncomputable section
open Go.Proofs
set_option maxRecDepth 100000
end
end Go.Av
namespace Go.Av
noncomputable section
open Go.Proofs
set_option maxRecDepth 100000
end
end Go.Av
namespace Go.Av
noncomputable section
open Go.Proofs
set_option maxRecDepth 100000
mutual
def Q2.wgt:Q2->Nat
 | .mk _ _ t is=>t.length+30+Q2.wgts is
def Q2.wgts:List Q2->Nat
 | []=>0
 | v::l=>v.wgt+Q2.wgts l
end
theorem Q2.wgt_eq (v:Q2):v.wgt=v.Text.length+30+Q2.wgts v.Items:=by cases v;simp only [Q2.wgt]
end
end Go.Av
namespace Go.Av
noncomputable section
open Go.Proofs
set_option maxRecDepth 100000
end
end Go.Av
namespace Go.Av
noncomputable section
open Go.Proofs
set_option maxRecDepth 100000
end
end Go.Av
namespace Go.Av
noncomputable section
open Go.Proofs
set_option maxRecDepth 100000
end
end Go.Av
namespace Go.Av
noncomputable section
open Go.Proofs
set_option maxRecDepth 100000
end
end Go.Av
namespace Go.Av
noncomputable section
open Go.Proofs
set_option maxRecDepth 100000
end
end Go.Av
namespace Go.Av
noncomputable section
open Go.Proofs
set_option maxRecDepth 100000
end
end Go.Av
namespace Go.Av
noncomputable section
open Go.Proofs
set_option maxRecDepth 100000
theorem Z3x (v:Q2) (h:v.txt):v.wgt≤430 * v.sz:=by
 induction v using Q2.ind with
 | h v ih=>
  rw [Q2.txt_eq] at h
  have hl:∀ l:List Q2,(∀ x∈l,x.wgt≤430 * x.sz)->Q2.wgts l≤430 * Q2.szs l:=by
   intro l
   induction l with
   | nil=>intro _;simp [Q2.wgts]
   | cons x l ihl=>
    intro h;have h1:=h x (.head _);have h2:=ihl (fun y hy=>h y (.tail _ hy));simp only [Q2.wgts,Q2.szs];omega
  have:=hl v.Items (fun x hx=>ih x hx (Qm6 _ h.2 x hx));rw [v.wgt_eq,v.sz_eq];omega
end
end Go.Av
namespace Go.Av
noncomputable section
open Go.Proofs
set_option maxRecDepth 100000
end
end Go.Av
namespace Go.Av
noncomputable section
open Go.Proofs
set_option maxRecDepth 100000
end
end Go.Av
namespace Go.Av
noncomputable section
open Go.Proofs
set_option maxRecDepth 100000
structure FB (f:Y2):Prop where
 fine:∀ x∈f.Values,Fine x
 sz:Q2.szs f.Values<160000000
 wgt:Q2.wgts f.Values<4000000000
theorem FB.len {f:Y2} (h:FB f):f.Values.length<160000000:=by
 have h1:=Q2.szs_len f.Values;have h2:=h.sz;omega
end
end Go.Av
namespace Go.Av
noncomputable section
open Go.Proofs
set_option maxRecDepth 100000
theorem Y2.ext' {a b:Y2} (h1:a.Type'=b.Type') (h2:a.Channel=b.Channel) (h3:a.Ext=b.Ext) (h4:a.Values=b.Values):a=b:=by cases a;cases b;simp_all
noncomputable instance:DecidableEq Y2:=fun a b=>decidable_of_iff (a.Type'=b.Type'∧a.Channel=b.Channel∧a.Ext=b.Ext∧a.Values=b.Values) ⟨fun h=>Y2.ext' h.1 h.2.1 h.2.2.1 h.2.2.2,fun h=>by rw [h];exact ⟨rfl,rfl,rfl,rfl⟩⟩
theorem Qro (l m:List Q2) (i:Nat) (h:i<l.length) (h':i<m.length):decide (l.drop i=m.drop i)=(decide (l[i]=m[i])&&decide (l.drop (i+1)=m.drop (i+1))):=by
 rw [Mp h,Mp h',Ce];simp only [Ag,La,Ca]
theorem Qo1 {N:Nat} (hN:800000000≤N) {a b:Y2} (ha:Q2.szs a.Values<700000000) (hl:a.Values.length=b.Values.length):∀ (n i:Nat),i≤a.Values.length->a.Values.length - i<n->Wd N a b n (i:Int)=some (decide (a.Values.drop i=b.Values.drop i))
 | 0,i,_,h=>by omega
 | n+1,i,hi,hn=>by
  have hs:=Q2.szs_len a.Values;simp only [Wd,Q5j,Qp0,Q2o,Qaf]
  by_cases h:i<a.Values.length
  ·have h':i<b.Values.length:=by omega
   have hx:=Q2.szs_mem _ _ (Md h);rw [Af (by omega),Ld h,Ld h'];simp only [Ll];rw [Qw5 N _ _ (by omega) (by omega),Qro _ _ i h h'];simp only [Ll];rw [Q8o _ (by omega)];have ih:=Qo1 hN ha hl n (i+1) (by omega) (by omega)
   have ih:Wd N a b n ((i:Int)+1)=some (decide (a.Values.drop (i+1)=b.Values.drop (i+1))):=by exact_mod_cast ih
   rw [ih];cases decide (a.Values[i]=b.Values[i])<;>rfl
  rw [Ae (by omega),Lz (by omega),Lz (by omega)];rfl
theorem Qpf {N:Nat} (hN:800000000≤N) (a b:Y2) (ha:Q2.szs a.Values<700000000):Q0f N a b=some (decide (a=b)):=by
 have hs:=Q2.szs_len a.Values;simp only [Q0f,Q5j,Qz2,Qi6,Q2o]
 by_cases h1:a.Type'=b.Type'
 ·rw [Ae (by simp [h1])]
  by_cases h2:a.Channel=b.Channel
  ·rw [Ae (by simp [h2])]
   by_cases h3:a.Ext=b.Ext
   ·rw [Ae (by simp [h3])]
    by_cases h4:a.Values.length=b.Values.length
    ·rw [Ae (by simp [h4])];have:=Qo1 hN ha h4 N 0 (by omega) (by omega);rw [Nb,Nb] at this
     have:Wd N a b N 0=some (decide (a.Values=b.Values)):=by exact_mod_cast this
     rw [this]
     congr 1
     rw [Ce];simp only [Ag];exact ⟨fun h=>Y2.ext' h1 h2 h3 h,fun h=>by rw [h]⟩
    rw [Af (by omega),Ab (fun h=>h4 (by rw [h]))]
   rw [Af h3,Ab (fun h=>h3 (by rw [h]))]
  rw [Af h2,Ab (fun h=>h2 (by rw [h]))]
 rw [Af h1,Ab (fun h=>h1 (by rw [h]))]
theorem Qhn {N:Nat} (hN:800000000≤N) {a b:Y2} (ha:Q2.szs a.Values<700000000) (hl:a.Values.length=b.Values.length):∀ (n i:Nat),i≤a.Values.length->a.Values.length - i<n->Yd N a b n (i:Int)=some (decide (a.Values.drop i=b.Values.drop i))
 | 0,i,_,h=>by omega
 | n+1,i,hi,hn=>by
  have hs:=Q2.szs_len a.Values;simp only [Yd,Q5j,Qp0,Q2o,Qaf]
  by_cases h:i<a.Values.length
  ·have h':i<b.Values.length:=by omega
   have hx:=Q2.szs_mem _ _ (Md h);rw [Af (by omega),Ld h,Ld h'];simp only [Ll];rw [Ql6 N _ _ (by omega) (by omega),Qro _ _ i h h'];simp only [Ll];rw [Q8o _ (by omega)];have ih:=Qhn hN ha hl n (i+1) (by omega) (by omega)
   have ih:Yd N a b n ((i:Int)+1)=some (decide (a.Values.drop (i+1)=b.Values.drop (i+1))):=by exact_mod_cast ih
   rw [ih];cases decide (a.Values[i]=b.Values[i])<;>rfl
  rw [Ae (by omega),Lz (by omega),Lz (by omega)];rfl
theorem Qhh {N:Nat} (hN:800000000≤N) (a b:Y2) (ha:Q2.szs a.Values<700000000):Us N a b=some (decide (a=b)):=by
 have hs:=Q2.szs_len a.Values;simp only [Us,Q5j,Qz2,Qi6,Q2o]
 by_cases h1:a.Type'=b.Type'
 ·rw [Ae (by simp [h1])]
  by_cases h2:a.Channel=b.Channel
  ·rw [Ae (by simp [h2])]
   by_cases h3:a.Ext=b.Ext
   ·rw [Ae (by simp [h3])]
    by_cases h4:a.Values.length=b.Values.length
    ·rw [Ae (by simp [h4])];have:=Qhn hN ha h4 N 0 (by omega) (by omega);rw [Nb,Nb] at this
     have:Yd N a b N 0=some (decide (a.Values=b.Values)):=by exact_mod_cast this
     rw [this]
     congr 1
     rw [Ce];simp only [Ag];exact ⟨fun h=>Y2.ext' h1 h2 h3 h,fun h=>by rw [h]⟩
    rw [Af (by omega),Ab (fun h=>h4 (by rw [h]))]
   rw [Af h3,Ab (fun h=>h3 (by rw [h]))]
  rw [Af h2,Ab (fun h=>h2 (by rw [h]))]
 rw [Af h1,Ab (fun h=>h1 (by rw [h]))]
theorem Qpk {N:Nat} (hN:800000000≤N) {f:Y2} (hl:f.Values.length≤6):∀ (n i:Nat),i≤f.Values.length->f.Values.length - i<n->∃ b,Zh N f n (i:Int)=some b∧(b=true->∀ x∈f.Values.drop i,x.sz≤40∧x.txt)
 | 0,i,_,h=>by omega
 | n+1,i,hi,hn=>by
  simp only [Zh,Q5j,Qp0,Q2o,Qaf]
  by_cases h:i<f.Values.length
  ·rw [Af (by omega),Ld h];obtain ⟨b1,l1,l2⟩:=Qtn N f.Values[i] (by omega);simp only [Ll,l1]
   cases b1 with
   | false=>exact ⟨false,rfl,fun h=>by cases h⟩
   | true=>
    rw [Q8o _ (by omega)];obtain ⟨b,e1,e2⟩:=Qpk hN hl n (i+1) (by omega) (by omega);refine ⟨b,?_,fun hb x hx=>?_⟩
    ·simp only [Bw,Mg,Al];exact_mod_cast e1
    rw [Mp h] at hx
    rcases Ml.1 hx with rfl | hx
    ·exact l2 rfl
    exact e2 hb x hx
  rw [Ae (by omega),Lz (by omega)];exact ⟨true,rfl,fun _ x hx=>by cases hx⟩
theorem Qpt {N:Nat} (hN:800000000≤N) (f:Y2):∃ b,Yo N f=some b∧(b=true->f.Values.length≤6∧f.Ext.length≤1100∧∀ x∈f.Values,x.sz≤40∧x.txt):=by
 simp only [Yo,Q5j,Z70,Q2o]
 by_cases h1:(f.Values.length:Int)>6
 ·rw [Af h1];exact ⟨false,rfl,fun h=>by cases h⟩
 rw [Ae h1]
 by_cases h2:(f.Ext.length:Int)>1100
 ·rw [Af h2];exact ⟨false,rfl,fun h=>by cases h⟩
 rw [Ae h2];obtain ⟨b,e1,e2⟩:=Qpk hN (f:=f) (by omega) N 0 (by omega) (by omega);refine ⟨b,by exact_mod_cast e1,fun hb=>⟨by omega,by omega,?_⟩⟩;have:=e2 hb
 rwa [Nb] at this
theorem Qky:∀ (l:List Q2),(∀ x∈l,x.sz≤40∧x.txt)->Q2.szs l≤40 * l.length∧Q2.wgts l≤17200 * l.length
 | [],_=>by simp [Q2.szs,Q2.wgts]
 | x::m,h=>by
  have h1:=h x (.head _);have h2:=Qky m (fun y hy=>h y (.tail _ hy));have h3:=Z3x x h1.2;simp only [Q2.szs,Q2.wgts,Li];omega
theorem Qze {f:Y2} (hl:f.Values.length≤6) (h:∀ x∈f.Values,x.sz≤40∧x.txt) (hv:∀ x∈f.Values,OkV x):FB f:=by
 obtain ⟨h1,h2⟩:=Qky _ h;exact ⟨fun x hx=>Z2p x (hv x hx) (h x hx).2,by omega,by omega⟩
end
end Go.Av
namespace Go.Av
noncomputable section
theorem Gz (x y:List UInt8):Q1l .eql x y=decide (x=y):=by
 show (x == y)=_
 by_cases h:x=y
 ·rw [h];simp
 rw [Ab h];exact beq_eq_false_iff_ne.2 h
theorem Q8t (x y:List UInt8):Q1l .neq x y=decide (x≠y):=by
 show (!(x == y))=_
 by_cases h:x=y
 ·rw [h];simp
 rw [Ad h,beq_eq_false_iff_ne.2 h];rfl
section
variable {T:Type}
theorem Qex {L:Nat->Nat->Int->Option Bool} {a b:List T} {eq:T->T->Bool} (heq:∀ x y,eq x y=true↔x=y) (hab:a.length=b.length) (hm:a.length≤maxLen)
  (Zf:∀ N n (i:Nat) (h:i<a.length) (h':i<b.length),L N (n+1) (i:Int)=cond (!(eq a[i] b[i])) (some false) (L N n (wrap .i64 ((i:Int)+1)))) (fin:∀ N n,L N (n+1) (a.length:Int)=some true) :
  TotP (fun N=>L N N 0) (fun v=>v=true↔a=b):=by
 have hml:=Qci;refine Q70 (L:=L) a.length (fun i=>∀ j (h:j<a.length) (h':j<b.length),j<i->a[j]=b[j]) (fun i hi hj=>?_) (fun hj=>?_) (fun j _ _ hj=>by omega)
 ·have e:(fun N n=>L N (n+1) (i:Int))=fun N n=>cond (!(eq (a[i]'hi) (b[i]'(by omega)))) (some false) (L N n (wrap .i64 ((i:Int)+1))):=by
   funext N n;exact Zf N n i hi (by omega)
  rw [e,w64 _ (by omega)];refine Stp.cond (fun h=>Stp.ret ?_) (fun h=>Stp.go (L:=L) _ ⟨by omega,fun j hj1 hj2 hji=>?_⟩)
  ·have h:¬ eq (a[i]'hi) (b[i]'(by omega))=true:=by simpa using h
   refine ⟨fun h=>(by cases h),fun e=>absurd ((heq _ _).2 ?_) h⟩;subst e;rfl
  have h:eq (a[i]'hi) (b[i]'(by omega))=true:=by simpa using h
  by_cases e:j=i
  ·subst e;exact (heq _ _).1 h
  exact hj j hj1 hj2 (by omega)
 have e:(fun N n=>L N (n+1) (a.length:Int))=fun _ _=>some true:=by funext N n;exact fin N n
 rw [e];exact Stp.ret ⟨fun _=>List.ext_getElem hab (fun j h1 h2=>hj j h1 h2 h1),fun _=>rfl⟩
end
theorem Z4a {x y:Q6}:(((x.ID:Int) == y.ID)&&(((x.N':Int) == y.N')&&(((x.Text:List UInt8) == y.Text)&&(((x.Value:List UInt8) == y.Value)&&true))))=true↔x=y:=by
 cases x;cases y;simp
theorem Znz {x y:Q09}:(((x.Radius:Int) == y.Radius)&&(((x.Node:List UInt8) == y.Node)&&true))=true↔x=y:=by
 cases x;cases y;simp
theorem Qwy {x y:Qa}:(((x.Topic:List UInt8) == y.Topic)&&(((x.QoS:Int) == y.QoS)&&(((x.NoLocal:Bool) == y.NoLocal)&&(((x.AsPublished:Bool) == y.AsPublished)&&(((x.Handling:Int) == y.Handling)&&true)))))=true↔x=y:=by
 cases x;cases y;simp
theorem Qhe (a b:List Q6) (ha:a.length≤maxLen):TotP (fun N=>Ur N a b) (fun v=>v=true↔a=b):=by
 unfold Ur;rw [Q3,Q3,Qp];refine TotP.cond (fun h => .ret ⟨fun h=>(by cases h),fun e=>?_⟩) (fun h=>?_)
 ·have:=Aa h;subst e;exact absurd rfl this
 have h:=Ac h
 have hab:a.length=b.length:=by omega
 refine Qex (L:=fun N n i=>Wu N a b n i) (eq:=fun x y=>((x.ID:Int) == y.ID)&&(((x.N':Int) == y.N')&&(((x.Text:List UInt8) == y.Text)&&(((x.Value:List UInt8) == y.Value)&&true)))) (fun _ _=>Z4a) hab ha (fun N n i h h'=>?_) (fun N n=>?_)
 ·show cond (Q4 .lss (i:Int) ((Q7 Q6.cells a).length:Int)) ((idx a (i:Int)).bind _) _=_;rw [Q3,Qf,Ad (by omega),Z3 h,Z3 h'];rfl
 show cond (Q4 .lss (a.length:Int) ((Q7 Q6.cells a).length:Int)) _ _=_;rw [Q3,Qf,Ab (by omega)];rfl
theorem Qoo (a b:List Q6) (ha:a.length≤maxLen):TotP (fun N=>Q7o N a b) (fun v=>v=true↔a=b):=by
 unfold Q7o;rw [Q3,Q3,Qp];refine TotP.cond (fun h => .ret ⟨fun h=>(by cases h),fun e=>?_⟩) (fun h=>?_)
 ·have:=Aa h;subst e;exact absurd rfl this
 have h:=Ac h
 have hab:a.length=b.length:=by omega
 refine Qex (L:=fun N n i=>Q2r N a b n i) (eq:=fun x y=>((x.ID:Int) == y.ID)&&(((x.N':Int) == y.N')&&(((x.Text:List UInt8) == y.Text)&&(((x.Value:List UInt8) == y.Value)&&true)))) (fun _ _=>Z4a) hab ha (fun N n i h h'=>?_) (fun N n=>?_)
 ·show cond (Q4 .lss (i:Int) ((Q7 Q6.cells a).length:Int)) ((idx a (i:Int)).bind _) _=_;rw [Q3,Qf,Ad (by omega),Z3 h,Z3 h'];rfl
 show cond (Q4 .lss (a.length:Int) ((Q7 Q6.cells a).length:Int)) _ _=_;rw [Q3,Qf,Ab (by omega)];rfl
theorem Qqq (a b:List Q09) (ha:a.length≤maxLen):TotP (fun N=>Xm N a b) (fun v=>v=true↔a=b):=by
 unfold Xm;rw [Q3,Q3,Qp];refine TotP.cond (fun h => .ret ⟨fun h=>(by cases h),fun e=>?_⟩) (fun h=>?_)
 ·have:=Aa h;subst e;exact absurd rfl this
 have h:=Ac h
 have hab:a.length=b.length:=by omega
 refine Qex (L:=fun N n i=>Y3 N a b n i) (eq:=fun x y=>((x.Radius:Int) == y.Radius)&&(((x.Node:List UInt8) == y.Node)&&true)) (fun _ _=>Znz) hab ha (fun N n i h h'=>?_) (fun N n=>?_)
 ·show cond (Q4 .lss (i:Int) ((Q7 Q09.cells a).length:Int)) ((idx a (i:Int)).bind _) _=_;rw [Q3,Qf,Ad (by omega),Z3 h,Z3 h'];rfl
 show cond (Q4 .lss (a.length:Int) ((Q7 Q09.cells a).length:Int)) _ _=_;rw [Q3,Qf,Ab (by omega)];rfl
theorem Qke (a b:List Qa) (ha:a.length≤maxLen):TotP (fun N=>Uz N a b) (fun v=>v=true↔a=b):=by
 unfold Uz;rw [Q3,Q3,Qp];refine TotP.cond (fun h => .ret ⟨fun h=>(by cases h),fun e=>?_⟩) (fun h=>?_)
 ·have:=Aa h;subst e;exact absurd rfl this
 have h:=Ac h
 have hab:a.length=b.length:=by omega
 refine Qex (L:=fun N n i=>Xz N a b n i) (eq:=fun x y=>((x.Topic:List UInt8) == y.Topic)&&(((x.QoS:Int) == y.QoS)&&(((x.NoLocal:Bool) == y.NoLocal)&&(((x.AsPublished:Bool) == y.AsPublished)&&(((x.Handling:Int) == y.Handling)&&true))))) (fun _ _=>Qwy) hab ha (fun N n i h h'=>?_) (fun N n=>?_)
 ·show cond (Q4 .lss (i:Int) ((Q7 Qa.cells a).length:Int)) ((idx a (i:Int)).bind _) _=_;rw [Q3,Qf,Ad (by omega),Z3 h,Z3 h'];rfl
 show cond (Q4 .lss (a.length:Int) ((Q7 Qa.cells a).length:Int)) _ _=_;rw [Q3,Qf,Ab (by omega)];rfl
theorem Qq1 (a b:List Int) (ha:a.length≤maxLen):TotP (fun N=>Q3e N a b) (fun v=>v=true↔a=b):=by
 unfold Q3e;rw [Q3,Q3,Qp];refine TotP.cond (fun h => .ret ⟨fun h=>(by cases h),fun e=>?_⟩) (fun h=>?_)
 ·have:=Aa h;subst e;exact absurd rfl this
 have h:=Ac h
 have hab:a.length=b.length:=by omega
 refine Qex (L:=fun N n i=>G4 N a b n i) (eq:=fun x y=>Q4 .eql x y) (fun x y=>by rw [Q9];exact decide_eq_true_iff) hab ha (fun N n i h h'=>?_) (fun N n=>?_)
 ·show cond (Q4 .lss (i:Int) ((Q7 (cI .i64) a).length:Int)) ((idx a (i:Int)).bind _) _=_;rw [Q3,Qf,Ad (by omega),Z3 h,Z3 h'];rfl
 show cond (Q4 .lss (a.length:Int) ((Q7 (cI .i64) a).length:Int)) _ _=_;rw [Q3,Qf,Ab (by omega)];rfl
structure Qy7 (p:Q1):Prop where
 codes:p.Codes.length≤maxLen
 filters:p.Filters.length≤maxLen
 props:p.Props.length≤maxLen
 wprops:p.Will.Props.length≤maxLen
theorem Qp5 (a b:Y5) (ha:a.Props.length≤maxLen):TotP (fun N=>Q3d N a b) (fun v=>v=true↔a=b):=by
 obtain ⟨t,p,q,r,l⟩:=a;obtain ⟨t',p',q',r',l'⟩:=b;unfold Q3d;dsimp only;rw [Gz,Gz,Q9];refine TotP.cond (fun h1=>?_) (fun h1 => .ret ⟨fun h=>(by cases h),fun e=>?_⟩)
 ·refine TotP.cond (fun h2=>?_) (fun h2 => .ret ⟨fun h=>(by cases h),fun e=>?_⟩)
  ·refine TotP.cond (fun h3=>?_) (fun h3 => .ret ⟨fun h=>(by cases h),fun e=>?_⟩)
   ·refine TotP.cond (fun h4=>?_) (fun h4 => .ret ⟨fun h=>(by cases h),fun e=>?_⟩)
    ·refine TotP.bind (Qhe l l' ha) (fun v hv => .ret ?_);rw [hv];have h1:=Aa h1;have h2:=Aa h2;have h3:=Aa h3;have h4:=eq_of_beq h4;subst h1 h2 h3 h4;simp
    injection e with _ _ _ e _;subst e;simp at h4
   injection e with _ _ e _ _;exact absurd e (Ac h3)
  injection e with _ e _ _ _;exact absurd e (Ac h2)
 injection e with e _ _ _ _;exact absurd e (Ac h1)
theorem Q25 (a b:Q1) (ha:Qy7 a):TotP (fun N=>Z5 N a b) (fun v=>v=true↔a=b):=by
 unfold Z5;refine TotP.bindE (.of fun N=>rfl) ?_;refine TotP.bindE (.of fun N=>rfl) ?_;refine TotP.cond (fun h1=>?_) (fun h1 => .ret ⟨fun h=>(by cases h),fun e=>?_⟩)
 ·refine TotP.bind (Qp5 a.Will b.Will ha.wprops) (fun v2 h2=>?_);refine TotP.cond (fun e2=>?_) (fun e2 => .ret ⟨fun h=>(by cases h),fun e=>?_⟩)
  ·refine TotP.bind (Qq1 a.Codes b.Codes ha.codes) (fun v3 h3=>?_);refine TotP.cond (fun e3=>?_) (fun e3 => .ret ⟨fun h=>(by cases h),fun e=>?_⟩)
   ·refine TotP.bind (Qke a.Filters b.Filters ha.filters) (fun v4 h4=>?_);refine TotP.cond (fun e4=>?_) (fun e4 => .ret ⟨fun h=>(by cases h),fun e=>?_⟩)
    ·refine TotP.bind (Qhe a.Props b.Props ha.props) (fun v5 h5 => .ret ?_);rw [h5];have e2:=h2.1 e2;have e3:=h3.1 e3;have e4:=h4.1 e4;obtain ⟨a1,a2,a3,a4,a5,a6,a7,a8,a9,a10,a11,a12,a13,a14,a15,a16,a17,a18,a19,a20,a21⟩:=a;obtain ⟨b1,b2,b3,b4,b5,b6,b7,b8,b9,b10,b11,b12,b13,b14,b15,b16,b17,b18,b19,b20,b21⟩:=b;dsimp only at e2 e3 e4 ⊢;simp at h1;simp [h1,e2,e3,e4]
    subst e;exact absurd (h4.2 rfl) (by rw [e4];simp)
   subst e;exact absurd (h3.2 rfl) (by rw [e3];simp)
  subst e;exact absurd (h2.2 rfl) (by rw [e2];simp)
 subst e;simp at h1
end
end Go.Av
namespace Go.Av
noncomputable section
theorem TotP.any {R:Type} {f:Nat->Option R} {Q:R->Prop} (h:TotP f Q):Any f:=h.mono fun _ _=>trivial
theorem Z3i {k:Int} (h:0≤k∧k≤18446744073709551615):wrap .u64 k=k:=IntWalk.u64_in k h
theorem Qxd (k:Int) (p:Q6):Tot (fun N=>Q22 N ⟨0,0,0,0⟩ k p) 9:=by
 refine .of fun N=>?_
 have e:Q0k N ⟨0,0,0,0⟩ k=some false:=by
  unfold Q0k;rw [Xv,X2]
  by_cases h1:k≥1
  ·by_cases h2:k≤16
   ·rw [Ad h1,Ad h2]
    have:k=1∨k=2∨k=3∨k=4∨k=5∨k=6∨k=7∨k=8∨k=9∨k=10∨k=11∨k=12∨k=13∨k=14∨k=15∨k=16:=by omega
    rcases this with rfl | rfl | rfl | rfl | rfl | rfl | rfl | rfl | rfl | rfl | rfl | rfl | rfl | rfl | rfl | rfl<;>rfl
   rw [Ad h1,Ab h2];rfl
  rw [Ab h1];rfl
 unfold Q22;rw [e];rfl
structure OkP (l:List Q6):Prop where
 len:l.length≤30
 txt:∀ p∈l,p.Text.length≤maxLen
theorem Qv1 (k c:Int):Any (fun N=>Q13 N k c):=by
 obtain ⟨w0,w1,w2,w3,e,_⟩:=Qk0 k;unfold Q13 Qz7;rw [e];unfold Z7k;rw [Xv,Qf];refine TotP.cond (fun h1=>?_) (fun _ => .ret trivial);refine TotP.cond (fun h2=>?_) (fun _ => .ret trivial);have h1:=Aa h1;have h2:=Aa h2;have e1:c.tdiv 64=c / 64:=Bh h1;have e2:c.tmod 64=c % 64:=Bx h1;rw [e1,e2,w64 _ (by omega)]
 have:c / 64=0∨c / 64=1∨c / 64=2∨c / 64=3:=by omega
 have hk:decide (0≤wrap .u64 (c % 64))=true:=by rw [Z3i (by omega),Ag];omega
 rcases this with h | h | h | h<;>rw [h]<;>exact TotP.bindE (.of fun _=>rfl) (TotP.chk hk (.ret trivial))
structure Qdi (p:Q1):Prop where
 l:Qy7 p
 props:OkP p.Props
 wprops:OkP p.Will.Props
 topic:p.Topic.length≤2000
 payload:p.Payload.length≤2000
 client:p.Client.length≤2000
 user:p.User.length≤2000
 pass:p.Pass.length≤2000
 wtopic:p.Will.Topic.length≤2000
 wpayload:p.Will.Payload.length≤2000
 codes:p.Codes.length≤30
 filters:p.Filters.length≤30∧∀ f∈p.Filters,f.Topic.length≤2000
theorem ml2:2000≤maxLen:=by unfold maxLen;decide
section
variable {p:Q1} (h:Qdi p)
include h
end
end
end Go.Av
namespace Go.Av
noncomputable section
theorem Qnf:∀ (l:List UInt8) (c:UInt8) (n:Nat),Qbl l c n≤n+l.length
 | [],_,n=>Lj _
 | b::l,c,n=>by
  unfold Qbl;split
  ·have:=Qnf l c (n+1);simp only [Li];omega
  have:=Qnf l c n;simp only [Li];omega
theorem Qgy:∀ (l:List UInt8) (c:UInt8) (i:Nat),Qea l c i = -1∨∃ k:Nat,Qea l c i=(k:Int)∧i≤k∧k<i+l.length
 | [],_,i => .inl rfl
 | b::l,c,i=>by
  unfold Qea;split
  ·exact .inr ⟨i,rfl,Lj _,by simp⟩
  rcases Qgy l c (i+1) with h | ⟨k,h1,h2,h3⟩
  ·exact .inl h
  exact .inr ⟨k,h1,by omega,by simp only [Li];omega⟩
def Z7p (s:List UInt8) (N n:Nat) (p:List UInt8×Int×List (List UInt8)):Option (List (List UInt8)):=Vt N s n p.1 p.2.1 p.2.2
end
end Go.Av
namespace Go.Av
noncomputable section
theorem ml7:70000≤maxLen:=by unfold maxLen;decide
section
variable {p:Q1} (h:Qdi p)
include h
end
end
end Go.Av
namespace Go.Av
noncomputable section
open Go.Proofs
theorem Zt9 (x:Nat) (h:x≤9223372036854775807):wrap .i64 (x:Int)=x:=w64 _ (by omega)
theorem Qql (N:Nat) (s:List UInt8) (j:Nat):Ya N s (j:Int)=some (if goes s j then (((at8 s j - 128:Nat):Int),true) else (0,false)):=by
 unfold Ya;rw [Xv]
 by_cases hj:j<s.length
 ·have hb:=Dj s[j];rw [Ab (show ¬ ((j:Int)≥(s.length:Int)) by omega),Ah,Z3 hj,Ll,Qf,Ll,Qx,Ll];have e:=Qe6 hj
  by_cases h1:at8 s j<128
  ·rw [Ad (by omega),Ai,Ae (fun h=>by have:=h.2.1;omega)]
  rw [Ab (by omega),Ah]
  by_cases h2:at8 s j<192
  ·rw [Ab (by omega),Ah,Af ⟨hj,by omega,h2⟩,w64 ((s[j]).toNat:Int) (by omega),w64 _ (by omega)]
   congr 2;omega
  rw [Ad (by omega),Ai,Ae (fun h=>h2 h.2.2)]
 rw [Ad (show ((j:Int)≥(s.length:Int)) by omega),Ai,Ae (fun h=>hj h.1)]
theorem Z9c (N:Nat) (s:List UInt8) (i n x k:Nat) (hk:k<2) (hx:x<1099511627776) (hi:i≤4611686018427387904):Zc N s (i:Int) (n+1) (x:Int) (k:Int) =
  if goes s (i+k) then Zc N s (i:Int) n ((64 * x+(at8 s (i+k) - 128):Nat):Int) ((k+1:Nat):Int) else some (0,0):=by
 have hb:=Qdk s (i+k);rw [Zc,Qf,Ad (by omega),Ai,show wrap .i64 ((i:Int)+(k:Int))=((i+k:Nat):Int) by rw [w64 _ (by omega)];omega,Qql,Ll]
 by_cases g:goes s (i+k)
 ·rw [Af g,Af g];show Zc N s (i:Int) n (wrap .i64 (wrap .i64 (64 * (x:Int))+((at8 s (i+k) - 128:Nat):Int))) (wrap .i64 ((k:Int)+1))=_;rw [w64 (64 * (x:Int)) (by omega),w64 _ (by omega),w64 _ (by omega)]
  congr 1
 rw [Ae g,Ae g];rfl
theorem Z5s (N:Nat) (s:List UInt8) (i n x:Nat):Zc N s (i:Int) (n+1) (x:Int) ((2:Nat):Int)=if 128≤x∧Qg4 x then some ((x:Int),2) else some (0,0):=by
 rw [Zc,Qf,Ab (by omega),Ah,Qf,Qx,Xv,X2];unfold Qg4
 by_cases h1:x<128
 ·rw [Ad (by omega),Ai,Ae (by omega)]
 rw [Ab (show ¬ ((x:Int)<128) by omega),Ah]
 by_cases h2:x≤1114111
 ·rw [Ab (show ¬ ((x:Int)>1114111) by omega),Ah]
  by_cases h3:55296≤x
  ·rw [Ad (show ((x:Int)≥55296) by omega),Ai]
   by_cases h4:x≤57343
   ·rw [Ad (show ((x:Int)≤57343) by omega),Ai,Ae (by omega)]
   rw [Ab (show ¬ ((x:Int)≤57343) by omega),Ah,Af (by omega)]
  rw [Ab (show ¬ ((x:Int)≥55296) by omega),Ah,Af (by omega)]
 rw [Ad (show ((x:Int)>1114111) by omega),Ai,Ae (by omega)]
theorem Z67 (N:Nat) (s:List UInt8) (i n x k:Nat) (hk:k<3) (hx:x<1099511627776) (hi:i≤4611686018427387904):Ze N s (i:Int) (n+1) (x:Int) (k:Int) =
  if goes s (i+k) then Ze N s (i:Int) n ((64 * x+(at8 s (i+k) - 128):Nat):Int) ((k+1:Nat):Int) else some (0,0):=by
 have hb:=Qdk s (i+k);rw [Ze,Qf,Ad (by omega),Ai,show wrap .i64 ((i:Int)+(k:Int))=((i+k:Nat):Int) by rw [w64 _ (by omega)];omega,Qql,Ll]
 by_cases g:goes s (i+k)
 ·rw [Af g,Af g];show Ze N s (i:Int) n (wrap .i64 (wrap .i64 (64 * (x:Int))+((at8 s (i+k) - 128:Nat):Int))) (wrap .i64 ((k:Int)+1))=_;rw [w64 (64 * (x:Int)) (by omega),w64 _ (by omega),w64 _ (by omega)]
  congr 1
 rw [Ae g,Ae g];rfl
theorem Z76 (N:Nat) (s:List UInt8) (i n x:Nat):Ze N s (i:Int) (n+1) (x:Int) ((3:Nat):Int)=if 2048≤x∧Qg4 x then some ((x:Int),3) else some (0,0):=by
 rw [Ze,Qf,Ab (by omega),Ah,Qf,Qx,Xv,X2];unfold Qg4
 by_cases h1:x<2048
 ·rw [Ad (by omega),Ai,Ae (by omega)]
 rw [Ab (show ¬ ((x:Int)<2048) by omega),Ah]
 by_cases h2:x≤1114111
 ·rw [Ab (show ¬ ((x:Int)>1114111) by omega),Ah]
  by_cases h3:55296≤x
  ·rw [Ad (show ((x:Int)≥55296) by omega),Ai]
   by_cases h4:x≤57343
   ·rw [Ad (show ((x:Int)≤57343) by omega),Ai,Ae (by omega)]
   rw [Ab (show ¬ ((x:Int)≤57343) by omega),Ah,Af (by omega)]
  rw [Ab (show ¬ ((x:Int)≥55296) by omega),Ah,Af (by omega)]
 rw [Ad (show ((x:Int)>1114111) by omega),Ai,Ae (by omega)]
theorem Z3e (N:Nat) (s:List UInt8) (i n x k:Nat) (hk:k<4) (hx:x<1099511627776) (hi:i≤4611686018427387904):Zd N s (i:Int) (n+1) (x:Int) (k:Int) =
  if goes s (i+k) then Zd N s (i:Int) n ((64 * x+(at8 s (i+k) - 128):Nat):Int) ((k+1:Nat):Int) else some (0,0):=by
 have hb:=Qdk s (i+k);rw [Zd,Qf,Ad (by omega),Ai,show wrap .i64 ((i:Int)+(k:Int))=((i+k:Nat):Int) by rw [w64 _ (by omega)];omega,Qql,Ll]
 by_cases g:goes s (i+k)
 ·rw [Af g,Af g];show Zd N s (i:Int) n (wrap .i64 (wrap .i64 (64 * (x:Int))+((at8 s (i+k) - 128:Nat):Int))) (wrap .i64 ((k:Int)+1))=_;rw [w64 (64 * (x:Int)) (by omega),w64 _ (by omega),w64 _ (by omega)]
  congr 1
 rw [Ae g,Ae g];rfl
theorem Z6r (N:Nat) (s:List UInt8) (i n x:Nat):Zd N s (i:Int) (n+1) (x:Int) ((4:Nat):Int)=if 65536≤x∧Qg4 x then some ((x:Int),4) else some (0,0):=by
 rw [Zd,Qf,Ab (by omega),Ah,Qf,Qx,Xv,X2];unfold Qg4
 by_cases h1:x<65536
 ·rw [Ad (by omega),Ai,Ae (by omega)]
 rw [Ab (show ¬ ((x:Int)<65536) by omega),Ah]
 by_cases h2:x≤1114111
 ·rw [Ab (show ¬ ((x:Int)>1114111) by omega),Ah]
  by_cases h3:55296≤x
  ·rw [Ad (show ((x:Int)≥55296) by omega),Ai]
   by_cases h4:x≤57343
   ·rw [Ad (show ((x:Int)≤57343) by omega),Ai,Ae (by omega)]
   rw [Ab (show ¬ ((x:Int)≤57343) by omega),Ah,Af (by omega)]
  rw [Ab (show ¬ ((x:Int)≥55296) by omega),Ah,Af (by omega)]
 rw [Ad (show ((x:Int)>1114111) by omega),Ai,Ae (by omega)]
def ptF (q:Nat×Nat):Int×Int:=if q.1=65533∧q.2=1 then (0,0) else ((q.1:Int),(q.2:Int))
theorem Qnr {c w:Nat} (h:¬ (c=65533∧w=1)):ptF (c,w)=((c:Int),(w:Int)):=Ae h
theorem Qb8:ptF (65533,1)=(0,0):=Af ⟨rfl,rfl⟩
def ptR (s:List UInt8) (i:Nat):Int×Int:=ptF (Q76 s i)
theorem Qyz (s:List UInt8) (i:Nat) (hi:i<s.length) (hs:s.length≤4611686018427387904) (M:Nat):Vv (M+5) s (i:Int)=some (ptR s i):=by
 have hb:=Qdk s i;have hb1:=Qdk s (i+1);have hb2:=Qdk s (i+(1+1));have e:=Qe6 hi
 have hw:wrap .i64 ((s[i]).toNat:Int)=(at8 s i:Int):=by rw [← e];exact Zt9 _ (by omega)
 unfold Vv;rw [Z3 hi,Ll,hw];simp only [Qf,Xv];unfold ptR Q76
 by_cases c1:at8 s i<128
 ·rw [Ad (by omega),Ai,Af c1,Qnr (by omega)];rfl
 rw [Ab (show ¬ ((at8 s i:Int)<128) by omega),Ah,Ae c1]
 by_cases c2:at8 s i<192
 ·rw [Ab (show ¬ ((at8 s i:Int)≥192) by omega),Ah,Ab (show ¬ ((at8 s i:Int)≥224) by omega),Ah,Ab (show ¬ ((at8 s i:Int)≥240) by omega),Ah,
   Ae (by omega),Ae (by omega),Ae (by omega),Qb8]
 rw [Ad (show ((at8 s i:Int)≥192) by omega),Ai]
 by_cases c3:at8 s i<224
 ·rw [Ad (show ((at8 s i:Int)<224) by omega),Ai,Ae (c:=224≤at8 s i∧_) (by omega),Ae (c:=240≤at8 s i∧_) (by omega)]
  have h0:wrap .i64 ((at8 s i:Int) - 192)=((at8 s i - 192:Nat):Int):=by rw [w64 _ (by omega)];omega
  rw [h0,show (1:Int)=((1:Nat):Int) from rfl,Z9c _ _ _ _ _ _ (by omega) (by omega) (by omega)]
  by_cases g1:goes s (i+1)
  ·rw [Af g1,show 1+1=2 from rfl,Z5s];have hg:=g1.2
   by_cases c4:128≤64 * (at8 s i - 192)+(at8 s (i+1) - 128)
   ·rw [Af ⟨c4,by unfold Qg4;omega⟩,Af ⟨by omega,c3,g1,c4⟩,Qnr (by omega)];rfl
   rw [Ae (fun h=>c4 h.1),Ae (fun h=>c4 h.2.2.2),Qb8]
  rw [Ae g1,Ae (fun h=>g1 h.2.2.1),Qb8]
 rw [Ab (show ¬ ((at8 s i:Int)<224) by omega),Ah,Ad (show ((at8 s i:Int)≥224) by omega),Ai,Ae (c:=192≤at8 s i∧_) (by omega)]
 by_cases c5:at8 s i<240
 ·rw [Ad (show ((at8 s i:Int)<240) by omega),Ai,Ae (c:=240≤at8 s i∧_) (by omega)]
  have h0:wrap .i64 ((at8 s i:Int) - 224)=((at8 s i - 224:Nat):Int):=by rw [w64 _ (by omega)];omega
  rw [h0,show (1:Int)=((1:Nat):Int) from rfl,Z67 _ _ _ _ _ _ (by omega) (by omega) (by omega)]
  by_cases g1:goes s (i+1)
  ·have hg1:=g1.2;rw [Af g1,Z67 _ _ _ _ _ _ (by omega) (by omega) (by omega)]
   by_cases g2:goes s (i+2)
   ·have hg2:=g2.2;rw [Af g2,show 1+1+1=3 from rfl,Z76]
    by_cases c4:2048≤64 * (64 * (at8 s i - 224)+(at8 s (i+1) - 128))+(at8 s (i+2) - 128)∧Qg4 (64 * (64 * (at8 s i - 224)+(at8 s (i+1) - 128))+(at8 s (i+2) - 128))
    ·rw [Af c4,Af ⟨by omega,c5,g1,g2,c4⟩,Qnr (by omega)];rfl
    rw [Ae c4,Ae (fun h=>c4 h.2.2.2.2),Qb8]
   rw [Ae g2,Ae (fun h=>g2 h.2.2.2.1),Qb8]
  rw [Ae g1,Ae (fun h=>g1 h.2.2.1),Qb8]
 rw [Ab (show ¬ ((at8 s i:Int)<240) by omega),Ah,Ad (show ((at8 s i:Int)≥240) by omega),Ai,Ae (c:=224≤at8 s i∧_) (by omega)]
 by_cases c6:at8 s i<248
 ·rw [Ad (show ((at8 s i:Int)<248) by omega),Ai]
  have h0:wrap .i64 ((at8 s i:Int) - 240)=((at8 s i - 240:Nat):Int):=by rw [w64 _ (by omega)];omega
  rw [h0,show (1:Int)=((1:Nat):Int) from rfl,Z3e _ _ _ _ _ _ (by omega) (by omega) (by omega)]
  by_cases g1:goes s (i+1)
  ·have hg1:=g1.2;rw [Af g1,Z3e _ _ _ _ _ _ (by omega) (by omega) (by omega)]
   by_cases g2:goes s (i+2)
   ·have hg2:=g2.2;rw [Af g2,Z3e _ _ _ _ _ _ (by omega) (by omega) (by omega)]
    by_cases g3:goes s (i+3)
    ·have hg3:=g3.2;rw [Af g3,show 1+1+1+1=4 from rfl,Z6r]
     by_cases c4:65536≤64 * (64 * (64 * (at8 s i - 240)+(at8 s (i+1) - 128))+(at8 s (i+2) - 128))+(at8 s (i+3) - 128)∧Qg4 (64 * (64 * (64 * (at8 s i - 240)+(at8 s (i+1) - 128))+(at8 s (i+2) - 128))+(at8 s (i+3) - 128))
     ·rw [Af c4,Af ⟨by omega,c6,g1,g2,g3,c4⟩,Qnr (by omega)];rfl
     rw [Ae c4,Ae (fun h=>c4 h.2.2.2.2.2),Qb8]
    rw [Ae g3,Ae (fun h=>g3 h.2.2.2.2.1),Qb8]
   rw [Ae g2,Ae (fun h=>g2 h.2.2.2.1),Qb8]
  rw [Ae g1,Ae (fun h=>g1 h.2.2.1),Qb8]
 rw [Ab (show ¬ ((at8 s i:Int)<248) by omega),Ah,Ae (fun h=>c6 h.2.1),Qb8]
theorem Qw0 (s:List UInt8) (i:Nat) (hi:i<s.length) (hs:s.length≤4611686018427387904):Tot (fun N=>Vv N s (i:Int)) (ptR s i):=
 ⟨5,fun N hN=>by obtain ⟨M,rfl⟩:∃ M,N=M+5:=⟨N - 5,by omega⟩;exact Qyz s i hi hs M⟩
theorem Qyk (s:List UInt8) (hs:s.length≤4611686018427387904):Tot (fun N=>Q2d N s) (Z4b (Qgo s 0)):=by
 refine TotP.tot ?_;refine Qbi (L:=fun N n (p:Int)=>W9 N s n p) (fun p=>∃ i:Nat,p=(i:Int)∧i≤s.length∧Qgo s i=Qgo s 0) (fun p=>s.length - p.toNat) ?_ 0 ⟨0,rfl,Ln _,rfl⟩
 rintro p ⟨i,rfl,hi,hb0⟩
 show Stp _ _ _ (fun N n=>cond (Q4 .lss (i:Int) (s.length:Int)) _ _);rw [Qf];refine Stp.cond (fun h=>?_) (fun h=>?_)
 ·have hl:i<s.length:=by have:=Aa h;omega
  have hw:=Qiq s i hl
  have hb:Qgo s i=(if (Q76 s i).1=0∨Qpm s i then some i else Qgo s (i+(Q76 s i).2)):=by rw [Qgo,dif_pos hl]
  refine Stp.bind (V:=(· = ptR s i)) ⟨_,rfl,Qw0 s i hl hs⟩ ?_
  rintro v rfl
  unfold ptR
  by_cases hn:Qpm s i
  ·rw [Af (.inr hn)] at hb;unfold Qpm at hn;rw [hn,Qb8];refine Stp.ret ?_;rw [← hb0,hb];rfl
  have hp:ptF (Q76 s i)=(((Q76 s i).1:Int),((Q76 s i).2:Int)):=Qnr (c:=(Q76 s i).1) (w:=(Q76 s i).2) (fun h=>hn (by unfold Qpm;rw [← h.1,← h.2]));rw [hp,Q9,Q9];refine Stp.cond (fun h2=>by have:=Aa h2;have:=hw.1;omega) (fun _=>?_);refine Stp.cond (fun h0=>?_) (fun h0=>?_)
  ·have h0:(Q76 s i).1=0:=by have:=Aa h0;omega
   refine Stp.ret ?_;rw [← hb0,hb,Af (.inl h0)];rfl
  have h0:(Q76 s i).1≠0:=by have:=Ac h0;omega
  have e:wrap .i64 ((i:Int)+((Q76 s i).2:Int))=((i+(Q76 s i).2:Nat):Int):=by rw [w64 _ (by have:=hw.2.1;omega)];omega
  show Stp _ _ _ (fun N n=>W9 N s n (wrap .i64 ((i:Int)+((Q76 s i).2:Int))));rw [e];refine Stp.go _ ⟨⟨_,rfl,hw.2.1,?_⟩,by have:=hw.1;have:=hw.2.1;simp only [Lt];omega⟩;rw [← hb0,hb,Ae]
  rintro (h | h)
  ·exact h0 h
  exact hn h
 have hl:¬ i<s.length:=by have:=Ac h;omega
 refine Stp.ret ?_;rw [← hb0,Qgo,dif_neg hl];rfl
theorem Z2d (o:Option Nat):decide (Z4b o<0)=o.isNone:=by
 cases o with
 | none=>rfl
 | some p=>exact Ab (by simp only [Z4b];omega)
theorem Q4k (s:List UInt8):Tot (fun N=>Y0 N s) (Vf s):=by
 refine TotP.tot ?_;show TotP (fun N=>cond (Q4 .leq (s.length:Int) 65535) _ _) _;rw [X2];refine TotP.cond (fun h=>?_) (fun h=>?_)
 ·have h:s.length≤65535:=by have:=Aa h;omega
  refine TotP.bindE (Qyk s (by omega)) (.ret ?_);rw [Qf,Z2d];simp [Vf,h]
 have h:¬ s.length≤65535:=by have:=Ac h;omega
 exact .ret (by simp [Vf,h])
theorem Qgh (s:List UInt8) (hs:s.length≤maxLen) (c:Nat):Tot (fun N=>Y7 N s (c:Int)) (s.any fun b=>b.toNat == c):=by
 have hm:=Qci;refine TotP.tot ?_;refine Q70 (L:=fun N n i=>Vd N s (c:Int) n i) s.length (fun i=>∀ j (h:j<s.length),j<i->(s[j]).toNat≠c) (fun i hi hj=>?_) (fun hj=>?_) (fun j _ hj=>by omega)
 ·show Stp _ _ _ (fun N n=>cond (Q4 .lss (i:Int) (s.length:Int)) _ _);refine Stp.cond (fun _=>?_) (fun h=>by rw [Qf] at h;have:=Ac h;omega);refine Stp.idx (Z3 hi) ?_;rw [Q9];refine Stp.cond (fun h=>?_) (fun h=>?_)
  ·refine Stp.ret (Eq.symm ?_);rw [Nq];exact ⟨s[i],Md _,by have:=Aa h;simp;omega⟩
  rw [w64 _ (by omega)];refine Stp.go _ ⟨by omega,fun j hj2 hji=>?_⟩
  by_cases e:j=i
  ·subst e;have:=Ac h;omega
  exact hj j hj2 (by omega)
 show Stp _ _ _ (fun N n=>cond (Q4 .lss (s.length:Int) (s.length:Int)) _ _);refine Stp.cond (fun h=>by rw [Qf] at h;have:=Aa h;omega) (fun _=>?_);refine Stp.ret (Eq.symm ?_);rw [Da];intro b hb;obtain ⟨j,hj2,rfl⟩:=Nh hb;have:=hj j hj2 hj2;simpa using this
theorem Qr3 (s:List UInt8):Qs5 s=((s.any fun b=>b.toNat == 43)||(s.any fun b=>b.toNat == 35)):=by
 unfold Qs5
 induction s with
 | nil=>rfl
 | cons b s ih=>simp only [List.any_cons,ih];cases b.toNat == 43<;>cases b.toNat == 35<;>cases (s.any fun b=>b.toNat == 43)<;>cases (s.any fun b=>b.toNat == 35)<;>rfl
theorem Qfi (s:List UInt8) (hs:s.length≤maxLen):Tot (fun N=>Qr N s) (Q0u s):=by
 refine TotP.tot ?_;show TotP (fun N=>cond (Q1l .neq s []) _ _) _
 have e:Q1l .neq s []=decide (s ≠ []):=by cases s<;>rfl
 rw [e];unfold Q0u;rw [Qr3];refine TotP.cond (fun h=>?_) (fun h => .ret (by rw [h];rfl));rw [h];refine TotP.bindE (Q4k s) ?_;refine TotP.cond (fun h=>?_) (fun h => .ret (by rw [h];rfl));rw [h];refine TotP.bindE (Qgh s hs 43) ?_;refine TotP.cond (fun h=>?_) (fun h => .ret ?_)
 ·refine TotP.bindE (Qgh s hs 35) (.ret ?_)
  have h:(s.any fun b=>b.toNat == 43)=false:=by simpa using h
  rw [h];rfl
 have h:(s.any fun b=>b.toNat == 43)=true:=by simpa using h
 rw [h];rfl
end
end Go.Av
namespace Go.Av
noncomputable section
section
variable {p:Q1} (h:Qdi p)
include h
end
end
end Go.Av
namespace Go.Av
noncomputable section
section
variable {p:Q1} (h:Qdi p)
include h
end
section
variable {p:Q1} (h:Qdi p)
include h
end
end
end Go.Av
namespace Go.Av
noncomputable section
structure Cd (B:Nat) (c:Q3c):Prop where
 d:c.do'=1∨c.do'=2
 nm:c.m.Name.length≤70000
 da:c.m.Data.length≤70000
 ou:c.out.length≤B
theorem Cd.mono {B C:Nat} {c:Q3c} (h:Cd B c) (hB:B≤C):Cd C c:=⟨h.d,h.nm,h.da,Na h.ou hB⟩
theorem Cd.zero {B:Nat} {c:Q3c} (h:Cd B c):Q4 .eql c.do' 0=false:=by
 have:=h.d;rw [Q9];exact Ab (by omega)
section
variable {B:Nat} {c:Q3c} (h:Cd B c) (hB:B≤10000000)
include h hB
end
section
variable {B:Nat} {c:Q3c} (h:Cd B c) (hB:B≤1000000)
include h hB

end
section
variable {B:Nat} {c:Q3c} (h:Cd B c) (hB:B≤1000)
include h hB

end
structure OkM (m:Qbr):Prop where
 nm:m.Name.length≤70000
 da:m.Data.length≤70000
section
variable {m:Qbr} (h:OkM m)
include h
end
section
variable {m:Qbr} (h:OkM m)
include h
end
structure Z9g (d:Q5m):Prop where
 hops:d.Hops.length≤30
 node:∀ x∈d.Hops,x.Node.length≤300
 msg:OkM d.Msg
section
variable {d:Q5m} (h:Z9g d) (l:Yz)
include h
end
end
end Go.Av
namespace Go.Av
noncomputable section
def noP:Q1:=⟨0,false,false,0,0,[],[],false,0,[],false,[],false,[],false,(⟨[],[],0,false,[]⟩:Y5),false,0,[],[],[]⟩
section
variable (p:Int) (t pl:List UInt8) (q id:Int)
end
end
end Go.Av
namespace Go.Av
noncomputable section
open Go.Proofs
set_option maxRecDepth 100000
end
end Go.Av
namespace Go.Av
noncomputable section
open Go.Proofs
set_option maxRecDepth 100000
theorem eqI (x:Int):Q4 .eql x x=true:=by simp [Q4]
end
end Go.Av
namespace Go.Av
noncomputable section
open Go.Proofs
set_option maxRecDepth 100000
end
end Go.Av
namespace Go.Av
noncomputable section
open Go.Proofs
set_option maxRecDepth 100000
end
abbrev Ar := @TotP.tot
abbrev At := @TotP.bind
abbrev Au := @TotP.bindE
abbrev Aw := @TotP.cond
abbrev Ax := @TotP.chk
abbrev Ay := @TotP.idx
abbrev Az := @Stp.fin
abbrev AA := @Stp.ret
abbrev AB := @Stp.go
abbrev AC := @Stp.bind
abbrev AD := @Stp.idx
abbrev AE := @Stp.cond
abbrev AF := @Stp.chk
end Go.Av
