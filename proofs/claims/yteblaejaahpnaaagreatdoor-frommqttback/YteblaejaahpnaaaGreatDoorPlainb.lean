/- Part of the proof of FrommqttBack: for every input the law returns true; no condition. -/
import Derived.Test.YteblaejaahpnaaaGreatDoorAvOwn
import Derived.Test.YteblaejaahpnaaaGreatDoorRound
import Derived.Test.YteblaejaahpnaaaGreatDoorLiftF5
import Derived.Test.YteblaejaahpnaaaGreatDoorPlain
import Derived.Test.YteblaejaahpnaaaGreatDoorOkX
set_option linter.all false
open Go.IntKind (wrap)
namespace Go.Av
noncomputable section
section
variable {R A S T:Type}
def Tot (f:Nat→Option R) (r:R):Prop:=∃ N0,∀ N,N0≤N→f N=some r
def TotP (f:Nat→Option R) (Q:R→Prop):Prop:=∃ r,Q r∧Tot f r
theorem Tot.of {f:Nat→Option R} {r:R} (h:∀ N,f N=some r):Tot f r:=⟨0,fun N _=>h N⟩
theorem Tot.ret (r:R):Tot (fun _=>some r) r := .of fun _=>rfl
theorem Tot.bind {f:Nat→Option A} {g:Nat→A→Option R} {v:A} {r:R} (h1:Tot f v) (h2:Tot (fun N=>g N v) r):Tot (fun N=>(f N).bind (g N)) r:=by
 obtain ⟨a,ha⟩:=h1;obtain ⟨b,hb⟩:=h2;exact ⟨max a b,fun N hN=>by show (f N).bind (g N)=_;rw [ha N (by omega)];exact hb N (by omega)⟩
theorem TotP.of {f:Nat→Option R} {r:R} {Q:R→Prop} (hq:Q r) (h:Tot f r):TotP f Q:=⟨r,hq,h⟩
theorem TotP.ret {r:R} {Q:R→Prop} (h:Q r):TotP (fun _=>some r) Q:=⟨r,h,.ret r⟩
theorem TotP.mono {f:Nat→Option R} {Q Q':R→Prop} (h:TotP f Q) (hq:∀ r,Q r→Q' r):TotP f Q':=by
 obtain ⟨r,h1,h2⟩:=h;exact ⟨r,hq r h1,h2⟩
theorem TotP.tot {f:Nat→Option R} {r:R} (h:TotP f (· = r)):Tot f r:=by obtain ⟨x,rfl,h2⟩:=h;exact h2
theorem TotP.bind {f:Nat→Option A} {g:Nat→A→Option R} {V:A→Prop} {Q:R→Prop} (h1:TotP f V) (h2:∀ v,V v→TotP (fun N=>g N v) Q):TotP (fun N=>(f N).bind (g N)) Q:=by
 obtain ⟨v,hv,t⟩:=h1;obtain ⟨r,hr,u⟩:=h2 v hv;exact ⟨r,hr,t.bind u⟩
theorem TotP.bindE {f:Nat→Option A} {g:Nat→A→Option R} {v:A} {Q:R→Prop} (h1:Tot f v) (h2:TotP (fun N=>g N v) Q):TotP (fun N=>(f N).bind (g N)) Q:=by
 obtain ⟨r,hr,u⟩:=h2;exact ⟨r,hr,h1.bind u⟩
theorem TotP.cond {b:Bool} {f g:Nat→Option R} {Q:R→Prop} (h1:b=true→TotP f Q) (h2:b=false→TotP g Q):TotP (fun N=>cond b (f N) (g N)) Q:=by
 cases b
 ·exact h2 rfl
 exact h1 rfl
theorem TotP.chk {b:Bool} {f:Nat→Option R} {Q:R→Prop} (hb:b=true) (h:TotP f Q):TotP (fun N=>_root_.cond b (f N) none) Q:=by subst hb;exact h
theorem TotP.idx {l:List T} {i:Int} {y:T} {g:Nat→T→Option R} {Q:R→Prop} (h:idx l i=some y) (h2:TotP (fun N=>g N y) Q):TotP (fun N=>(Go.Av.idx l i).bind (g N)) Q:=
 .bindE (.of fun _=>h) h2
theorem TotP.optC {o:Option T} {f:Nat→T→Option R} {z:Nat→Option R} {Q:R→Prop} (h1:∀ v,o=some v→TotP (fun N=>f N v) Q) (h2:o=none→TotP z Q):TotP (fun N=>Go.Av.optC o (f N) (z N)) Q:=by
 cases o with
 | none=>exact h2 rfl
 | some v=>exact h1 v rfl
def Stp (L:Nat→Nat→S→Option R) (P:S→Prop) (Q:R→Prop) (f:Nat→Nat→Option R):Prop:=
 (∃ r N0,Q r∧∀ N n,N0≤N→f N n=some r)∨∃ s N0,P s∧∀ N n,N0≤N→f N n=L N n s
section
variable {L:Nat→Nat→S→Option R} {P:S→Prop} {Q:R→Prop}
theorem Stp.fin {f:Nat→Option R} (h:TotP f Q):Stp L P Q (fun N _=>f N):=by
 obtain ⟨r,h1,N0,h2⟩:=h;exact .inl ⟨r,N0,h1,fun N _ hN=>h2 N hN⟩
theorem Stp.ret {r:R} (h:Q r):Stp L P Q (fun _ _=>some r) := .inl ⟨r,0,h,fun _ _ _=>rfl⟩
theorem Stp.go (s:S) (h:P s):Stp L P Q (fun N n=>L N n s) := .inr ⟨s,0,h,fun _ _ _=>rfl⟩
theorem Stp.bind {f:Nat→Option A} {g:Nat→Nat→A→Option R} {V:A→Prop} (h1:TotP f V) (h2:∀ v,V v→Stp L P Q (fun N n=>g N n v)):Stp L P Q (fun N n=>(f N).bind (g N n)):=by
 obtain ⟨v,hv,a,ha⟩:=h1
 rcases h2 v hv with ⟨r,b,hr,hb⟩ | ⟨s,b,hs,hb⟩
 ·exact .inl ⟨r,max a b,hr,fun N n hN=>by show (f N).bind _=_;rw [ha N (by omega)];exact hb N n (by omega)⟩
 exact .inr ⟨s,max a b,hs,fun N n hN=>by show (f N).bind _=_;rw [ha N (by omega)];exact hb N n (by omega)⟩
theorem Stp.idx {l:List T} {i:Int} {y:T} {g:Nat→Nat→T→Option R} (h:idx l i=some y) (h2:Stp L P Q (fun N n=>g N n y)):Stp L P Q (fun N n=>(Go.Av.idx l i).bind (g N n)):=
 .bind (f:=fun _=>Go.Av.idx l i) (V:=(· = y)) ⟨y,rfl,.of fun _=>h⟩ (fun v hv=>by subst hv;exact h2)
theorem Stp.cond {b:Bool} {f g:Nat→Nat→Option R} (h1:b=true→Stp L P Q f) (h2:b=false→Stp L P Q g):Stp L P Q (fun N n=>cond b (f N n) (g N n)):=by
 cases b
 ·exact h2 rfl
 exact h1 rfl
theorem Stp.chk {b:Bool} {f:Nat→Nat→Option R} (hb:b=true) (h:Stp L P Q f):Stp L P Q (fun N n=>_root_.cond b (f N n) none):=by subst hb;exact h
theorem Qas (inv:S→Prop) (μ:S→Nat) (Zh:∀ s,inv s→Stp L (fun s'=>inv s' ∧ μ s' < μ s) Q (fun N n=>L N (n+1) s)) (s:S) (h:inv s):TotP (fun N=>L N N s) Q:=by
 have key:∀ (m:Nat) (s:S),μ s<m→inv s→∃ r N0,Q r∧∀ N n,N0≤N→N0≤n→L N n s=some r:=by
  intro m
  induction m with
  | zero=>intro s h;omega
  | succ m ih=>
   intro s hm hi
   rcases Zh s hi with ⟨r,N0,hr,hL⟩ | ⟨s',N0,⟨h1,h2⟩,hL⟩
   ·refine ⟨r,N0+1,hr,fun N n h1 h2=>?_⟩;obtain ⟨k,rfl⟩:∃ k,n=k+1:=⟨n - 1,by omega⟩;exact hL N k (by omega)
   obtain ⟨r,M0,hr,hM⟩:=ih s' (by omega) h1;refine ⟨r,max N0 M0+1,hr,fun N n h1 h2=>?_⟩;obtain ⟨k,rfl⟩:∃ k,n=k+1:=⟨n - 1,by omega⟩;exact (hL N k (by omega)).trans (hM N k (by omega) (by omega))
 obtain ⟨r,N0,hr,hL⟩:=key (μ s+1) s (by omega) h;exact ⟨r,hr,N0,fun N hN=>hL N N hN hN⟩
end
theorem Q5n {L:Nat→Nat→Int→Option R} {Q:R→Prop} (m:Nat) (J:Nat→Prop) (Zh:∀ i,i<m→J i→Stp L (fun s=>s=((i+1:Nat):Int)∧J (i+1)) Q (fun N n=>L N (n+1) (i:Int)))
  (fin:J m→Stp L (fun _=>False) Q (fun N n=>L N (n+1) (m:Int))) (h0:J 0):TotP (fun N=>L N N 0) Q:=by
 refine Qas (S:=Int) (fun s=>∃ i:Nat,s=(i:Int)∧i≤m∧J i) (fun s=>m - s.toNat) ?_ 0 ⟨0,rfl,Lm _,h0⟩
 rintro s ⟨i,rfl,hi,hj⟩
 by_cases h:i<m
 ·rcases Zh i h hj with ⟨r,N0,hr,hL⟩ | ⟨s',N0,⟨rfl,h2⟩,hL⟩
  ·exact .inl ⟨r,N0,hr,hL⟩
  exact .inr ⟨_,N0,⟨⟨i+1,rfl,h,h2⟩,by simp only [Lt];omega⟩,hL⟩
 have:i=m:=by omega
 subst this
 rcases fin hj with ⟨r,N0,hr,hL⟩ | ⟨s',N0,h2,hL⟩
 ·exact .inl ⟨r,N0,hr,hL⟩
 exact h2.elim
end
theorem Qd (x y:Int):Q3 .lss x y=decide (x<y):=rfl
theorem Xu (x y:Int):Q3 .leq x y=decide (x≤y):=rfl
theorem Qy (x y:Int):Q3 .gtr x y=decide (x>y):=rfl
theorem Wx (x y:Int):Q3 .geq x y=decide (x≥y):=rfl
theorem Qa (x y:Int):Q3 .eql x y=decide (x=y):=by unfold Q3;by_cases h:x=y<;>simp [h]
theorem Qq (x y:Int):Q3 .neq x y=decide (x≠y):=by unfold Q3;by_cases h:x=y<;>simp [h]
theorem w64 (x:Int) (h : -9223372036854775808≤x∧x≤9223372036854775807):wrap .i64 x=x:=IntWalk.i64_in x h
theorem Z2 {T:Type} {l:List T} {i:Nat} (h:i<l.length):idx l (i:Int)=some l[i]:=Ld h
theorem Q9a:maxLen≤9223372036854775807:=by unfold maxLen;decide
end
end Go.Av
namespace Go.Av
noncomputable section
def at8 (s:List UInt8) (i:Nat):Nat:=(s.getD i 0).toNat
theorem Qcu (s:List UInt8) (i:Nat):at8 s i<256:=Di _
theorem Qdb {s:List UInt8} {i:Nat} (h:i<s.length):at8 s i=(s[i]).toNat:=by simp [at8,h]
def goes (s:List UInt8) (i:Nat):Prop:=i<s.length∧128≤at8 s i∧at8 s i<192
instance (s:List UInt8) (i:Nat):Decidable (goes s i):=inferInstanceAs (Decidable (_∧_))
def Qfh (c:Nat):Prop:=¬ (55296≤c∧c≤57343)∧c≤1114111
instance (c:Nat):Decidable (Qfh c):=inferInstanceAs (Decidable (_∧_))
def Q6n (s:List UInt8) (i:Nat):Nat×Nat:=
 if at8 s i<128 then (at8 s i,1)
 else if 192≤at8 s i∧at8 s i<224∧goes s (i+1)∧128≤64 * (at8 s i - 192)+(at8 s (i+1) - 128) then (64 * (at8 s i - 192)+(at8 s (i+1) - 128),2)
 else if 224≤at8 s i∧at8 s i<240∧goes s (i+1)∧goes s (i+2)∧2048≤64 * (64 * (at8 s i - 224)+(at8 s (i+1) - 128))+(at8 s (i+2) - 128)∧Qfh (64 * (64 * (at8 s i - 224)+(at8 s (i+1) - 128))+(at8 s (i+2) - 128)) then
  (64 * (64 * (at8 s i - 224)+(at8 s (i+1) - 128))+(at8 s (i+2) - 128),3)
 else if 240≤at8 s i∧at8 s i<248∧goes s (i+1)∧goes s (i+2)∧goes s (i+3)∧65536≤64 * (64 * (64 * (at8 s i - 240)+(at8 s (i+1) - 128))+(at8 s (i+2) - 128))+(at8 s (i+3) - 128) ∧
   Qfh (64 * (64 * (64 * (at8 s i - 240)+(at8 s (i+1) - 128))+(at8 s (i+2) - 128))+(at8 s (i+3) - 128)) then
  (64 * (64 * (64 * (at8 s i - 240)+(at8 s (i+1) - 128))+(at8 s (i+2) - 128))+(at8 s (i+3) - 128),4)
 else (65533,1)
theorem Qnd (c:Nat):Utf8.valid (c:Int)=true↔Qfh c:=by
 unfold Utf8.valid Qfh;simp only [La,Bg,Bc,Ag,An];omega
theorem Qyi (a b c d:Nat) (G1 G2 G3:Prop) [Decidable G1] [Decidable G2] [Decidable G3] (h0:a<256) (q1:G1→128≤b∧b<192) (q2:G2→128≤c∧c<192) (q3:G3→128≤d∧d<192) :
  (if a<128 then (a,1)
   else if (a / 32 == 6&&decide G1)=true then (if a % 32 * 64+b % 64≥128 then (a % 32 * 64+b % 64,2) else (65533,1))
   else if (a / 16 == 14&&decide G1&&decide G2)=true then (if (decide (a % 16 * 4096+b % 64 * 64+c % 64≥2048)&&Utf8.valid ((a % 16 * 4096+b % 64 * 64+c % 64:Nat):Int))=true then (a % 16 * 4096+b % 64 * 64+c % 64,3) else (65533,1))
   else if (a / 8 == 30&&decide G1&&decide G2&&decide G3)=true then (if (decide (a % 8 * 262144+b % 64 * 4096+c % 64 * 64+d % 64≥65536)&&Utf8.valid ((a % 8 * 262144+b % 64 * 4096+c % 64 * 64+d % 64:Nat):Int))=true then (a % 8 * 262144+b % 64 * 4096+c % 64 * 64+d % 64,4) else (65533,1))
   else (65533,1)) =
  (if a<128 then (a,1)
   else if 192≤a∧a<224∧G1∧128≤64 * (a - 192)+(b - 128) then (64 * (a - 192)+(b - 128),2)
   else if 224≤a∧a<240∧G1∧G2∧2048≤64 * (64 * (a - 224)+(b - 128))+(c - 128)∧Qfh (64 * (64 * (a - 224)+(b - 128))+(c - 128)) then (64 * (64 * (a - 224)+(b - 128))+(c - 128),3)
   else if 240≤a∧a<248∧G1∧G2∧G3∧65536≤64 * (64 * (64 * (a - 240)+(b - 128))+(c - 128))+(d - 128)∧Qfh (64 * (64 * (64 * (a - 240)+(b - 128))+(c - 128))+(d - 128)) then
    (64 * (64 * (64 * (a - 240)+(b - 128))+(c - 128))+(d - 128),4)
   else (65533,1)):=by
 simp only [La,Ag,Aj,Qnd,ge_iff_le];have e2:∀ x,Qfh x=(¬ (55296≤x∧x≤57343)∧x≤1114111):=fun x=>rfl
 by_cases c1:a<128
 ·rw [Af c1,Af c1]
 rw [Ae c1,Ae c1]
 by_cases c2:a<192
 ·rw [Ae (by omega),Ae (by omega),Ae (by omega),Ae (by omega),Ae (by omega),Ae (by omega)]
 by_cases c3:a<224
 ·by_cases g1:G1
  ·have:=q1 g1
   have e:a % 32 * 64+b % 64=64 * (a - 192)+(b - 128):=by omega
   rw [Af ⟨by omega,g1⟩,e]
   by_cases c4:128≤64 * (a - 192)+(b - 128)
   ·rw [Af c4,Af ⟨by omega,c3,g1,c4⟩]
   rw [Ae c4,Ae (fun h=>c4 h.2.2.2),Ae (by omega),Ae (by omega)]
  rw [Ae (fun h=>g1 h.2),Ae (by omega),Ae (by omega),Ae (fun h=>g1 h.2.2.1),Ae (by omega),Ae (by omega)]
 rw [Ae (by omega),Ae (c:=192≤a∧_) (by omega)]
 by_cases c5:a<240
 ·by_cases g:G1∧G2
  ·have:=q1 g.1;have:=q2 g.2
   have e:a % 16 * 4096+b % 64 * 64+c % 64=64 * (64 * (a - 224)+(b - 128))+(c - 128):=by omega
   rw [Af ⟨⟨by omega,g.1⟩,g.2⟩,e]
   by_cases c4:2048≤64 * (64 * (a - 224)+(b - 128))+(c - 128)∧Qfh (64 * (64 * (a - 224)+(b - 128))+(c - 128))
   ·rw [Af c4,Af ⟨by omega,c5,g.1,g.2,c4⟩]
   rw [Ae c4,Ae (fun h=>c4 h.2.2.2.2),Ae (by omega)]
  rw [Ae (fun h=>g ⟨h.1.2,h.2⟩),Ae (by omega),Ae (fun h=>g ⟨h.2.2.1,h.2.2.2.1⟩),Ae (by omega)]
 rw [Ae (by omega),Ae (c:=224≤a∧_) (by omega)]
 by_cases c6:a<248
 ·by_cases g:G1∧G2∧G3
  ·have:=q1 g.1;have:=q2 g.2.1;have:=q3 g.2.2
   have e:a % 8 * 262144+b % 64 * 4096+c % 64 * 64+d % 64=64 * (64 * (64 * (a - 240)+(b - 128))+(c - 128))+(d - 128):=by omega
   rw [Af ⟨⟨⟨by omega,g.1⟩,g.2.1⟩,g.2.2⟩,e]
   by_cases c4:65536≤64 * (64 * (64 * (a - 240)+(b - 128))+(c - 128))+(d - 128)∧Qfh (64 * (64 * (64 * (a - 240)+(b - 128))+(c - 128))+(d - 128))
   ·rw [Af c4,Af ⟨by omega,c6,g.1,g.2.1,g.2.2,c4⟩]
   rw [Ae c4,Ae (fun h=>c4 h.2.2.2.2.2)]
  rw [Ae (fun h=>g ⟨h.1.1.2,h.1.2,h.2⟩),Ae (fun h=>g ⟨h.2.2.1,h.2.2.2.1,h.2.2.2.2.1⟩)]
 rw [Ae (by omega),Ae (by omega)]
theorem Z42 (s:List UInt8) (j:Nat):(decide (j<s.length)&&(at8 s j / 64 == 2))=decide (goes s j):=by
 have hk:=Qcu s j
 by_cases hg:goes s j
 ·have h4:at8 s j / 64=2:=by have:=hg.2;omega
  simp [hg,hg.1,h4]
 simp only [hg,decide_false,Bool.and_eq_false_iff,An]
 by_cases hl:j<s.length
 ·right;simp only [beq_eq_false_iff_ne,ne_eq]
  intro h4;exact hg ⟨hl,by omega,by omega⟩
 exact .inl hl
theorem Qr6 (s:List UInt8) (i:Nat):Qfg s i=Q6n s i:=by
 have u:∀ j,(s.getD j 0).toNat=at8 s j:=fun _=>rfl;have:=Qyi (at8 s i) (at8 s (i+1)) (at8 s (i+2)) (at8 s (i+3)) (goes s (i+1)) (goes s (i+2)) (goes s (i+3)) (Qcu _ _) (fun h=>h.2) (fun h=>h.2) (fun h=>h.2);unfold Q6n;rw [← this];unfold Qfg;simp only [Nv,u,Z42];rfl
theorem Qi8 (s:List UInt8) (i:Nat) (h:i<s.length):1≤(Q6n s i).2∧i+(Q6n s i).2≤s.length∧((Q6n s i).1<128↔at8 s i<128)∧(at8 s i<128→(Q6n s i).1=at8 s i∧(Q6n s i).2=1) ∧
  (∀ k,1≤k→k<(Q6n s i).2→128≤at8 s (i+k))∧Qfh (Q6n s i).1:=by
 have h0:=Qcu s i;unfold Q6n;split
 ·refine ⟨by simp,by simp;omega,by simp,fun _=>⟨rfl,rfl⟩,fun k h1 h2=>by simp at h2;omega,by unfold Qfh;simp;omega⟩
 split
 ·rename_i h1 h2;obtain ⟨_,_,g1,h3⟩:=h2;refine ⟨by simp,by simp;have:=g1.1;omega,by simp;omega,fun h=>by omega,fun k h4 h5=>?_,by unfold Qfh;simp only;have:=g1.2;omega⟩
  have:k=1:=by simp at h5;omega
  subst this;exact g1.2.1
 split
 ·rename_i h1 h2 h3;obtain ⟨_,_,g1,g2,h3,h6⟩:=h3;refine ⟨by simp,by simp;have:=g2.1;omega,by simp;omega,fun h=>by omega,fun k h4 h5=>?_,h6⟩
  have:k=1∨k=2:=by simp at h5;omega
  rcases this with rfl | rfl
  ·exact g1.2.1
  exact g2.2.1
 split
 ·rename_i h1 h2 h3 h4;obtain ⟨_,_,g1,g2,g3,h3,h6⟩:=h4;refine ⟨by simp,by simp;have:=g3.1;omega,by simp;omega,fun h=>by omega,fun k h4 h5=>?_,h6⟩
  have:k=1∨k=2∨k=3:=by simp at h5;omega
  rcases this with rfl | rfl | rfl
  ·exact g1.2.1
  ·exact g2.2.1
  exact g3.2.1
 rename_i h1 h2 h3 h4;exact ⟨by simp,by simp;omega,by simp;omega,fun h=>by omega,fun k h4 h5=>by simp at h5;omega,by unfold Qfh;simp⟩
def Qox (s:List UInt8) (i:Nat):Prop:=Q6n s i=(65533,1)
instance (s:List UInt8) (i:Nat):Decidable (Qox s i):=inferInstanceAs (Decidable (_=_))
def Qgc (s:List UInt8) (pos:Nat):Option Nat:=
 if h:pos<s.length then (if (Q6n s pos).1=0∨Qox s pos then some pos else Qgc s (pos+(Q6n s pos).2)) else none
termination_by s.length - pos
decreasing_by have:=(Qi8 s pos h).1;omega
end
end Go.Av
namespace Go.Av
noncomputable section
open Go.Proofs
theorem Z3c {b:UInt8} {n:Nat} (h:b.toNat=n) (hn:n<256):b=UInt8.ofNat n:=by
 apply Dg.1;rw [h];simp [UInt8.toNat_ofNat];omega
theorem Qva {s:List UInt8} {i:Nat} (hi:i<s.length) (hc:(Q6n s i).1=65533):(3≤(s.drop i).length∧(s.drop i).take 3 = [239,191,189])↔¬ Qox s i:=by
 constructor
 ·rintro ⟨h1,h2⟩ hn
  have hl:i+2<s.length:=by simp at h1;omega
  have g:∀ k,k<3→s[i+k]? = ([239,191,189]:List UInt8)[k]? := by
   intro k hk;rw [← h2,Mj,Af hk,Mn]
  have a0:at8 s i=239:=by have:=g 0 (by omega);simp at this;simp [at8,List.getD_eq_getElem?_getD,this]
  have a1:at8 s (i+1)=191:=by have:=g 1 (by omega);simp at this;simp [at8,List.getD_eq_getElem?_getD,this]
  have a2:at8 s (i+2)=189:=by have:=g 2 (by omega);simp at this;simp [at8,List.getD_eq_getElem?_getD,this]
  have g1:goes s (i+1):=⟨by omega,by omega,by omega⟩;have g2:goes s (i+2):=⟨by omega,by omega,by omega⟩;unfold Qox Q6n at hn;rw [a0,a1,a2] at hn;simp [g1,g2,Qfh] at hn
 intro hn;have h0:=Qcu s i;unfold Qox at hn;unfold Q6n at hn hc;split at hn
 ·rename_i h1;rw [Af h1] at hc;simp at hc;omega
 rename_i h1;rw [Ae h1] at hc;split at hn
 ·rename_i h2;rw [Af h2] at hc;obtain ⟨_,_,g1,_⟩:=h2;have:=g1.2;simp at hc;omega
 rename_i h2;rw [Ae h2] at hc;split at hn
 ·rename_i h3;rw [Af h3] at hc;obtain ⟨_,_,g1,g2,_⟩:=h3;have b1:=g1.2;have b2:=g2.2;have l2:=g2.1
  simp only at hc
  have a0:at8 s i=239:=by omega
  have a1:at8 s (i+1)=191:=by omega
  have a2:at8 s (i+2)=189:=by omega
  rw [Qdb (by omega)] at a0 a1 a2;refine ⟨by simp;omega,?_⟩;apply Nk;intro k;rw [Mj]
  by_cases hk:k<3
  ·rw [Af hk,Mn]
   have:k=0∨k=1∨k=2:=by omega
   rcases this with rfl | rfl | rfl
   ·rw [Nv,Ld (by omega),Z3c a0 (by omega)];rfl
   ·rw [Ld (by omega),Z3c a1 (by omega)];rfl
   rw [Ld (by omega),Z3c a2 (by omega)];rfl
  rw [Ae hk];simp;omega
 rename_i h3;rw [Ae h3] at hc;split at hn
 ·rename_i h4;rw [Af h4] at hc;obtain ⟨_,_,g1,g2,g3,h5,h6⟩:=h4
  simp only at hc
  omega
 exact absurd rfl hn
theorem Qxt (N:Nat) (s:List UInt8):Q2q N s=some (decide (3≤s.length∧s.take 3 = [239,191,189])):=by
 unfold Q2q;rw [Wx]
 by_cases h:3≤s.length
 ·have h1:decide ((s.length:Int)≥3)=true:=by simp;omega
  have h2:(Nat.ble 0 3&&Nat.ble 3 s.length)=true:=by simp [h]
  rw [h1,h2];simp only [Ai,Mz,Q0p]
  congr 1
  by_cases h3:s.take 3 = [239,191,189]<;>simp [h,h3]
 have h1:decide ((s.length:Int)≥3)=false:=by simp;omega
 rw [h1];simp [h]
def Z3n (o:Option Nat):Int:=match o with
 | some p=>p
 | none => -1
theorem Z2q (s:List UInt8):Tot (fun N=>Q6o N s) (Z3n (Qgc s 0)):=by
 refine TotP.tot ?_;show TotP (fun N=>Uo N s N 0) _;refine Qas (L:=fun N n (p:Nat)=>Uo N s n p) (fun p=>Qgc s p=Qgc s 0) (fun p=>s.length - p) (fun p hp=>?_) 0 rfl;show Stp _ _ _ (fun N n=>cond (Nat.blt p s.length) _ _);refine Stp.cond (fun h=>?_) (fun h=>?_)
 ·have hl:p<s.length:=by simpa [Nat.blt_eq] using h
  rw [Qr6];have hw:=Qi8 s p hl
  have hb:Qgc s p=(if (Q6n s p).1=0∨Qox s p then some p else Qgc s (p+(Q6n s p).2)):=by rw [Qgc,dif_pos hl]
  rw [Qa,Qa];refine Stp.cond (fun h0=>?_) (fun h0=>?_)
  ·have h0:(Q6n s p).1=0:=by simpa using h0
   refine Stp.ret ?_;rw [← hp,hb,Af (.inl h0)];rfl
  have h0:(Q6n s p).1≠0:=by simpa using h0
  refine Stp.cond (fun h1=>?_) (fun h1=>?_)
  ·have h1:(Q6n s p).1=65533:=by have:=Aa h1;omega
   refine Stp.chk (by simp;omega) ?_;rw [Nj];refine Stp.bind (V:=(· = decide (3≤(s.drop p).length∧(s.drop p).take 3 = [239,191,189]))) ⟨_,rfl,.of fun N=>Qxt N _⟩ ?_
   rintro v rfl
   have hwi:=Qva hl h1;refine Stp.cond (fun h2=>?_) (fun h2=>?_)
   ·have h2:¬ (3≤(s.drop p).length∧(s.drop p).take 3 = [239,191,189]):=by
     have:(!decide (3≤(s.drop p).length∧(s.drop p).take 3 = [239,191,189]))=true:=h2;simpa only [Bc,An] using this
    have h3:Qox s p:=Mb fun h=>h2 (hwi.2 h);refine Stp.ret ?_;rw [← hp,hb,Af (.inr h3)];rfl
   have h2:(3≤(s.drop p).length∧(s.drop p).take 3 = [239,191,189]):=by
    have:(!decide (3≤(s.drop p).length∧(s.drop p).take 3 = [239,191,189]))=false:=h2;simpa only [Bool.not_eq_false',Ag] using this
   refine Stp.go (p+(Q6n s p).2) ⟨?_,by have:=hw.1;have:=hw.2.1;omega⟩;rw [← hp,hb,Ae]
   rintro (h | h)
   ·exact h0 h
   exact hwi.1 h2 h
  have h1:(Q6n s p).1≠65533:=by intro e;rw [e] at h1;simp at h1
  refine Stp.go (p+(Q6n s p).2) ⟨?_,by have:=hw.1;have:=hw.2.1;omega⟩;rw [← hp,hb,Ae]
  rintro (h | h)
  ·exact h0 h
  unfold Qox at h;rw [h] at h1;exact h1 rfl
 have hl:¬ p<s.length:=fun hlt=>by
  have h':Nat.blt p s.length=true:=by rw [Ch];exact hlt
  rw [h'] at h;cases h
 refine Stp.ret ?_;rw [← hp,Qgc,dif_neg hl];rfl
def Vg (s:List UInt8):Bool:=decide (s.length≤65535)&&(Qgc s 0).isNone
theorem Qzj (o:Option Nat):decide (Z3n o = -1)=o.isNone:=by
 cases o with
 | none=>rfl
 | some p=>simp [Z3n]
theorem Q96 (s:List UInt8):Tot (fun N=>X1 N s) (Vg s):=by
 refine TotP.tot ?_;show TotP (fun N=>cond (Q3 .leq (s.length:Int) 65535) _ _) _;rw [Xu];refine TotP.cond (fun h=>?_) (fun h=>?_)
 ·have h:s.length≤65535:=by have:=Aa h;omega
  refine TotP.bindE (Z2q s) (.ret ?_);rw [Qa,Qzj];simp [Vg,h]
 have h:¬ s.length≤65535:=by have:=Ac h;omega
 exact .ret (by simp [Vg,h])
end
end Go.Av
namespace Go.Av
noncomputable section
open Go.Proofs
theorem Qr3 (s:List UInt8):Tot (fun N=>Q65 N s) (decide (s ≠ [])&&Vg s):=by
 refine TotP.tot ?_;show TotP (fun N=>cond (Q0p .neq s []) _ _) _
 have e:Q0p .neq s []=decide (s ≠ []):=by cases s<;>rfl
 rw [e];refine TotP.cond (fun h=>?_) (fun h=>?_)
 ·exact .bindE (Q96 s) (.ret (by rw [h];rfl))
 exact .ret (by rw [h];rfl)
theorem Qvt (c:UInt8):∀ (l:List UInt8) (i:Nat),(0≤Qdn l c i)↔c∈l
 | [],i=>by simp [Qdn]
 | b::l,i=>by
  unfold Qdn
  by_cases h:b == c
  ·rw [Af h];have:=eq_of_beq h;subst this;simp
  rw [Ae h,Qvt c l (i+1)];have:¬ c=b:=fun e=>h (by simp [e]);simp [this]
theorem Qxr {c:Nat} (h:Qfh c) (h1:128≤c):∃ l:List UInt8,(Utf8.encode (c:Int)).data.toList=l∧2≤l.length∧l.length≤4∧∀ b∈l,128≤b.toNat:=by
 have hv:=(Qnd c).2 h;unfold Utf8.encode;simp only [hv,Ak,Lt];have h2:=h.2
 have m:∀ n,n<256→128≤n→128≤(UInt8.ofNat n).toNat:=fun n a b=>by rw [Cv];omega
 rw [Ae (by omega)];split
 ·refine ⟨_,rfl,by simp,by simp,fun b hb=>?_⟩;simp only [Ml,Be,or_false] at hb
  rcases hb with rfl | rfl<;>exact m _ (by omega) (by omega)
 split
 ·refine ⟨_,rfl,by simp,by simp,fun b hb=>?_⟩;simp only [Ml,Be,or_false] at hb
  rcases hb with rfl | rfl | rfl<;>exact m _ (by omega) (by omega)
 refine ⟨_,rfl,by simp,by simp,fun b hb=>?_⟩;simp only [Ml,Be,or_false] at hb
 rcases hb with rfl | rfl | rfl | rfl<;>exact m _ (by omega) (by omega)
theorem Qy0 (M:Nat):Yl (M+3) [43,35] (M+3) 0=some (-1):=by
 have e1:Qfg [43,35] 0=(43,1):=by decide
 have e2:Qfg [43,35] (0+1)=(35,1):=by decide
 have b0:Nat.blt 0 ([43,35]:List UInt8).length=true:=rfl;have b1:Nat.blt (0+1) ([43,35]:List UInt8).length=true:=rfl;have b2:Nat.blt (0+1+1) ([43,35]:List UInt8).length=false:=rfl
 have c1:Q3 .eql ((43:Nat):Int) 65533=false:=by decide
 have c2:Q3 .eql ((35:Nat):Int) 65533=false:=by decide
 rw [Yl,e1,b0,Ai,c1,Ah,Yl,e2,b1,Ai,c2,Ah,Yl,b2,Ah]
theorem Z2o {c:Nat} (hc:Qfh c) (N:Nat):Vs N (c:Int)=some true:=by
 unfold Vs;simp only [Xu,Qd];obtain ⟨k1,k2⟩:=hc;rw [Ad (show (0:Int)≤(c:Int) by omega)]
 by_cases h5:(c:Int)<55296
 ·rw [Ad h5];rfl
 have h6:(57343:Int)<(c:Int):=by omega
 have h7:(c:Int)≤1114111:=by omega
 rw [Ab h5,Ad h6,Ad h7];rfl
theorem Qy2 {c:Nat} (hc:Qfh c) (h:128≤c) (M:Nat):Vc (M+1) [43,35] (c:Int) (M+1)=some (-1):=by
 obtain ⟨l,hl,l1,l2,l3⟩:=Qxr hc h;rw [Vc];simp only [hl,Qd,Qq]
 have ew:wrap .i64 ((l.length:Int) - 1)=((l.length - 1:Nat):Int):=by rw [w64 _ (by omega)];omega
 rw [ew]
 by_cases h2:l.length=2
 ·have e1:((l.length - 1:Nat):Int)=((1:Nat):Int):=by rw [h2]
  rw [e1];have e2:idx l ((1:Nat):Int)=some l[1]:=Z2 (by omega);have e3:=l3 l[1] (Md _);generalize l[1]=y at e2 e3
  have e4:decide (((35:UInt8).toNat:Int)≠(y.toNat:Int))=true:=by
   have:(35:UInt8).toNat=35:=rfl;simp only [ne_eq,Ag];omega
  have e5:idx ([43,35]:List UInt8) ((1:Nat):Int)=some 35:=rfl
  have e6:wrap .i64 (((1:Nat):Int)+1)=2:=by decide
  have e7:decide (((1:Nat):Int)<((([43,35]:List UInt8).length:Nat):Int))=true:=by decide
  have e8:decide ((0:Int)≤2)=true:=by decide
  rw [e7,Ai,e5,Ll,e2,Ll,e4,Ai,e6,e8,Ai]
  have e9:(Nat.ble (Int.toNat 2) ([43,35]:List UInt8).length&&Nat.ble ([43,35]:List UInt8).length ([43,35]:List UInt8).length)=true:=by decide
  rw [e9,Ai,Ll];rfl
 have e1:decide (((l.length - 1:Nat):Int)<((([43,35]:List UInt8).length:Nat):Int))=false:=by
  simp;omega
 rw [e1];rfl
theorem Qmg {c:Nat} (hc:Qfh c):TotP (fun N=>Q1s N [43,35] (c:Int)) (fun v=>decide (v≥0)=decide (c=43∨c=35)):=by
 show TotP (fun N=>cond (Q3 .leq 0 (c:Int)) _ _) _
 have e0:Q3 .leq 0 (c:Int)=true:=by rw [Xu];simp
 rw [e0];refine TotP.cond (fun _=>?_) (fun h=>by cases h);unfold Uu;rw [Qd,Qa];refine TotP.cond (fun h=>?_) (fun h=>?_)
 ·have h:c<128:=by have:=Aa h;omega
  have ew:wrap .u8 (c:Int)=c:=by
   rw [IntWalk.u8_in];omega
  refine TotP.bindE (v:=Qdn [43,35] (UInt8.ofNat c) 0) (.of fun N=>?_) (.ret ?_)
  ·show ((Zn N [43,35] _).bind fun v=>some v)=_;rw [ew];rfl
  have:=Qvt (UInt8.ofNat c) [43,35] 0;rw [decide_eq_decide];show (0≤_)↔_;rw [this]
  have e1:∀ n,n<256→(UInt8.ofNat c=UInt8.ofNat n↔c=n):=fun n hn=>by
   rw [← Dg,Cv,Cv];omega
  have a:=e1 43 (by omega);have b:=e1 35 (by omega);simp only [Ml,Be,or_false];exact or_congr a b
 have h:128≤c:=by have:=Ac h;omega
 have hn:decide (c=43∨c=35)=false:=by simp;omega
 refine TotP.cond (fun h1=>?_) (fun h1=>?_)
 ·-- bytes that are none
  refine ⟨-1,by rw [hn];rfl,3,fun N hN=>?_⟩;obtain ⟨M,rfl⟩:∃ M,N=M+3:=⟨N - 3,by omega⟩;exact Qy0 M
 refine TotP.bindE (.of (Z2o hc)) ?_;refine TotP.cond (fun h=>by cases h) (fun _=>?_);refine ⟨-1,by rw [hn];rfl,1,fun N hN=>?_⟩;obtain ⟨M,rfl⟩:∃ M,N=M+1:=⟨N - 1,by omega⟩;exact Qy2 hc h M
end
end Go.Av
namespace Go.Av
noncomputable section
open Go.Proofs
def Qry (s:List UInt8):Bool:=s.any fun b=>b.toNat == 43||b.toNat == 35
theorem Z17 {s:List UInt8} {j:Nat} (hj:j<s.length) (h:at8 s j=43∨at8 s j=35):Qry s=true:=by
 unfold Qry;rw [Nr];refine ⟨s[j],Md _,?_⟩;rw [Qdb hj] at h
 rcases h with h | h<;>simp [h]
theorem Z0f {s:List UInt8} (h:∀ j,j<s.length→at8 s j≠43∧at8 s j≠35):Qry s=false:=by
 unfold Qry;rw [Cz];intro b hb;obtain ⟨j,hj,rfl⟩:=Nh hb;have:=h j hj;rw [Qdb hj] at this;simp [this.1,this.2]
def asciiS:List Bool:=(List.range 256).map fun n=>n == 43||n == 35
theorem Qwd (n:Nat) (h:n<256):idx asciiS (n:Int)=some (n == 43||n == 35):=by
 have hl:n<asciiS.length:=by simp [asciiS];exact h
 rw [Z2 hl];simp [asciiS]
set_option maxRecDepth 20000 in
theorem Qnr (s:List UInt8) (hs:s.length≤maxLen):TotP (fun N=>Q0z N s) (fun v=>decide (v≥0)=Qry s):=by
 have hm:=Q9a;show TotP (fun N=>cond (Q0p .eql [43,35] []) _ _) _;refine TotP.cond (fun h=>by cases h) (fun _=>?_);refine TotP.bindE (v:=decide ((s.length:Int)>8)) (.of fun N=>rfl) ?_;refine TotP.cond (fun _=>?_) (fun _=>?_)
 ·refine Q5n (L:=fun N n i=>Wg N s n i) s.length (fun i=>∀ j,j<i→at8 s j≠43∧at8 s j≠35) (fun i hi hj=>?_) (fun hj=>?_) (fun j hj=>by omega)
  ·show Stp _ _ _ (fun N n=>cond (Q3 .lss (i:Int) (s.length:Int)) _ _);refine Stp.cond (fun _=>?_) (fun h=>by rw [Qd] at h;have:=Ac h;omega);refine Stp.idx (Z2 hi) ?_;have hb:=Di s[i];refine Stp.chk (by simp;omega) ?_;refine Stp.idx (Qwd _ (by omega)) ?_;refine Stp.cond (fun h=>?_) (fun h=>?_)
   ·refine Stp.ret ?_;rw [Z17 hi (by rw [Qdb hi];simpa using h)];simp
   rw [w64 _ (by omega)];refine Stp.go _ ⟨by omega,fun j hj'=>?_⟩
   by_cases e:j=i
   ·subst e;rw [Qdb hi];simpa using h
   exact hj j (by omega)
  show Stp _ _ _ (fun N n=>cond (Q3 .lss (s.length:Int) (s.length:Int)) _ _);refine Stp.cond (fun h=>by rw [Qd] at h;have:=Aa h;omega) (fun _=>?_);refine Stp.ret ?_;rw [Z0f hj];rfl
 refine Qas (L:=fun N n (p:Nat)=>Wf N s n p) (fun p=>∀ j,j<p→at8 s j≠43∧at8 s j≠35) (fun p=>s.length - p) (fun p hp=>?_) 0 (fun j hj=>by omega);show Stp _ _ _ (fun N n=>cond (Nat.blt p s.length) _ _);refine Stp.cond (fun h=>?_) (fun h=>?_)
 ·have hl:p<s.length:=by simpa [Nat.blt_eq] using h
  rw [Qr6];obtain ⟨w1,w2,w3,w4,w5,w6⟩:=Qi8 s p hl;refine Stp.bind (Qmg w6) ?_;intro v hv;rw [Wx,hv];refine Stp.cond (fun h=>?_) (fun h=>?_)
  ·have h:=Aa h;have h128:at8 s p<128:=w3.1 (by omega);refine Stp.ret ?_;rw [Z17 hl (by rw [← (w4 h128).1];exact h)];simp
  have h:=Ac h;refine Stp.go _ ⟨fun j hj=>?_,by omega⟩
  by_cases e:j<p
  ·exact hp j e
  by_cases e2:j=p
  ·subst e2
   by_cases h128:at8 s j<128
   ·rw [(w4 h128).1] at h;omega
   omega
  have:=w5 (j - p) (by omega) (by omega);rw [show p+(j - p)=j by omega] at this;omega
 refine Stp.ret ?_;rw [Z0f (fun j hj=>hp j ?_)]
 ·rfl
 have:¬ p<s.length:=fun hlt=>by
  have h':Nat.blt p s.length=true:=by rw [Ch];exact hlt
  rw [h'] at h;cases h
 omega
theorem Qgs (s:List UInt8) (hs:s.length≤maxLen):Tot (fun N=>Xk N s) (Qry s):=by
 refine TotP.tot ?_;refine TotP.bind (Qnr s hs) (fun v hv => .ret ?_);rw [Wx];exact hv
def Q04 (s:List UInt8):Bool:=decide (s ≠ [])&&Vg s && !Qry s
theorem Qf8 (s:List UInt8) (hs:s.length≤maxLen):Tot (fun N=>Jl N s) (Q04 s):=by
 refine TotP.tot ?_;refine TotP.bindE (Qr3 s) ?_;refine TotP.cond (fun h=>?_) (fun h=>?_)
 ·refine TotP.bindE (Qgs s hs) (.ret ?_);unfold Q04;rw [h];rfl
 exact .ret (by unfold Q04;rw [h];rfl)
end
end Go.Av
namespace Go.Av
noncomputable section
def Any {R:Type} (f:Nat→Option R):Prop:=TotP f fun _=>True
theorem Qm2 (N:Nat) (x a b:Int):Q15 N x a b=some (decide (a≤x)&&decide (x≤b)):=by
 unfold Q15;rw [Wx,Xu]
 by_cases h:a≤x
 ·rw [Ad (p:=x≥a) h];rfl
 rw [Ab (p:=x≥a) h];rfl
section
variable (e:Qe) (lm:Ua) (h1:e.Hops.length≤8) (h2:∀ h∈e.Hops,h.Node.length≤300)
include h1 h2
end
end
end Go.Av
namespace Go.Av
noncomputable section
section
variable {R S T:Type} {L:Nat→Nat→S→Option R} {P:S→Prop} {Q:R→Prop}
theorem Stp.optN {f:Nat→Nat→T→Option R} {z:Nat→Nat→Option R} (h:Stp L P Q z):Stp L P Q (fun N n=>optC none (f N n) (z N n)):=h
theorem Stp.optS {v:T} {f:Nat→Nat→T→Option R} {z:Nat→Nat→Option R} (h:Stp L P Q (fun N n=>f N n v)):Stp L P Q (fun N n=>optC (some v) (f N n) (z N n)):=h
end
theorem Qes {T:Type} {x:Int} {v:T}:∀ {tab:List (Int×T)},Q55 tab x=some v→(x,v)∈tab
 | (k,w)::r,h=>by
  unfold Q55 at h
  cases hb:x == k with
  | true=>rw [hb] at h;have e:=eq_of_beq hb;subst e;cases h;exact Ns
  | false=>rw [hb] at h;exact Nm _ (Qes h)
 | [],h=>nomatch h
theorem Qz4 {x:Int} {v:Qv} (h:Q55 F_prop_rules_tab x=some v):1≤x∧x≤42:=by
 have hall:(F_prop_rules_tab.all fun q=>decide (1≤q.1)&&decide (q.1≤42))=true:=by decide +kernel
 have:=Mf.1 hall _ (Qes h);simpa using this
end
end Go.Av
namespace Go.Av
noncomputable section
theorem Q9i (l:List Qb) (hb:l.length≤maxLen):TotP (fun N=>Qx N l) (fun v=>v=true→l.length≤30∧∀ p∈l,p.Text.length≤300∧p.Value.length≤300):=by
 have hm:=Q9a
 ·refine Q5n (L:=fun N n s=>Yg N l n s) l.length (fun i=>∀ j (h:j<l.length),j<i→(l[j]).Text.length≤300∧(l[j]).Value.length≤300) (fun i hi hj=>?_) (fun hj=>?_) (fun j _ hj=>by omega)
  ·show Stp _ _ _ (fun N n=>cond (Q3 .lss (i:Int) ((Q6 Qb.cells l).length:Int)) _ _);rw [Q4,Qd];refine Stp.cond (fun _=>?_) (fun h=>by have:=Ac h;omega);refine Stp.idx (Z2 hi) ?_;rw [Qy];refine Stp.cond (fun _=>Stp.ret (fun h=>nomatch h)) (fun h1=>?_);refine Stp.idx (Z2 hi) ?_;rw [Qy];refine Stp.cond (fun _=>Stp.ret (fun h=>nomatch h)) (fun h2=>?_);have h1:=Ac h1;have h2:=Ac h2;rw [w64 _ (by omega)];refine Stp.go (L:=fun N n s=>Yg N l n s) _ ⟨by omega,fun j hj' hji=>?_⟩
   by_cases e:j=i
   ·subst e;constructor<;>omega
   exact hj j hj' (by omega)
  show Stp _ _ _ (fun N n=>cond (Q3 .lss (l.length:Int) ((Q6 Qb.cells l).length:Int)) _ _);rw [Q4,Qd];refine Stp.cond (fun h=>by have:=Aa h;omega) (fun _=>Stp.ret (fun h=>⟨?_,fun p hp=>?_⟩))
  ·rw [Xu] at h;have:=Aa h;omega
  obtain ⟨j,hj',rfl⟩:=Nh hp;exact hj j hj' hj'
theorem Z87 (x:Int):wrap .i64 x≤9223372036854775807:=by rw [IntKind.wrap_i64];omega
theorem Qw3:∀ (k:Nat) (v:Q2) (deep most:Int),deep<(k:Int) → -1≤deep→deep≤1000→most≤9223372036854775807→Any (fun N=>Y6 N v deep most):=by
 intro k
 induction k with
 | zero=>
  intro v deep most h _ _ _;refine ⟨wrap .i64 (most+1),trivial,1,fun N hN=>?_⟩;obtain ⟨M,rfl⟩:∃ M,N=M+1:=⟨N - 1,by omega⟩;show cond (Q3 .lss deep 0) _ _=_;rw [Qd,Ad (by omega)];rfl
 | succ k ih=>
  intro v deep most h hd hdm hm
  have body:Any (fun N=>Q03 (Y6 N) N v deep most):=by
   refine TotP.cond (fun _ => .ret trivial) (fun h1=>?_);refine TotP.cond (fun _ => .ret trivial) (fun h2=>?_);refine TotP.cond (fun _ => .ret trivial) (fun _=>?_);rw [Qd] at h1;rw [Q2.rows_eq,Q4,Qy] at h2;have h1:=Ac h1;have h2:=Ac h2;have:=Qas (L:=fun N n (p:Int×Int)=>Yk (Y6 N) N v deep most n p.1 p.2) (Q:=fun _=>True) (fun p=>∃ i:Nat,p.2=(i:Int)∧i≤v.Items.length) (fun p=>v.Items.length - p.2.toNat) ?_ (1,0) ⟨0,rfl,by omega⟩
   ·exact this
   rintro ⟨q,s⟩ ⟨i,hs,hi⟩
   simp only at hs
   subst hs;show Stp _ _ _ (fun N n=>cond (Q3 .lss (i:Int) ((Q2.rows v.Items).length:Int)) _ _);rw [Q2.rows_eq,Q4,Qd];refine Stp.cond (fun h=>?_) (fun _=>Stp.ret trivial);have h:=Aa h
   have hi:i<v.Items.length:=by omega
   refine Stp.cond (fun _=>?_) (fun _=>Stp.ret trivial);refine Stp.idx (Z2 hi) ?_;rw [w64 (deep - 1) (by omega)];refine Stp.bind (f:=fun N=>Y6 N (v.Items[i]) (deep - 1) (wrap .i64 (most - q))) (V:=fun _=>True) (ih v.Items[i] (deep - 1) (wrap .i64 (most - q)) (by omega) (by omega) (by omega) (Z87 (most - q))) (fun w _=>?_);rw [w64 ((i:Int)+1) (by omega)];refine Stp.go (L:=fun N n (p:Int×Int)=>Yk (Y6 N) N v deep most n p.1 p.2) (_,_) ⟨⟨i+1,by simp only;omega,by omega⟩,by simp only;omega⟩
  obtain ⟨r,_,N0,hN⟩:=body;refine ⟨r,trivial,N0+1,fun N h=>?_⟩;obtain ⟨M,rfl⟩:∃ M,N=M+1:=⟨N - 1,by omega⟩;exact hN M (by omega)
theorem Qvu (f:Yy):Any (fun N=>Yq N f):=by
 refine TotP.cond (fun _ => .ret trivial) (fun h0=>?_);rw [Q2.rows_eq,Q4,Qy] at h0;have h0:=Ac h0;refine TotP.cond (fun _ => .ret trivial) (fun _=>?_);refine Q5n (L:=fun N n s=>Zk N f n s) f.Values.length (fun _=>True) (fun i hi _=>?_) (fun _=>?_) trivial
 ·show Stp _ _ _ (fun N n=>cond (Q3 .lss (i:Int) ((Q2.rows f.Values).length:Int)) _ _);rw [Q2.rows_eq,Q4];refine Stp.cond (fun _=>?_) (fun _=>Stp.ret trivial);refine Stp.idx (Z2 hi) ?_;refine Stp.bind (V:=fun _=>True) (TotP.bind (Qw3 7 _ 6 40 (by decide) (by decide) (by decide) (by decide)) (fun _ _ => .ret trivial)) (fun _ _=>?_);refine Stp.cond (fun _=>Stp.ret trivial) (fun _=>?_);rw [w64 _ (by omega)];exact Stp.go (L:=fun N n s=>Zk N f n s) _ ⟨by omega,trivial⟩
 show Stp _ _ _ (fun N n=>cond (Q3 .lss (f.Values.length:Int) ((Q2.rows f.Values).length:Int)) _ _);rw [Q2.rows_eq,Q4];refine Stp.cond (fun h=>by rw [Qd] at h;have:=Aa h;omega) (fun _=>Stp.ret trivial)
structure OkE (e:Qe):Prop where
 topic:e.Topic.length≤maxLen
 props:e.Props.length≤maxLen
 filters:e.Packet.Filters.length≤maxLen
 pprops:e.Packet.Props.length≤maxLen
 wprops:e.Packet.Will.Props.length≤maxLen
structure LightE (e:Qe):Prop where
 topic:e.Topic.length≤2000
 payload:e.Payload.length≤2000
 props:e.Props.length≤30∧∀ p∈e.Props,p.Text.length≤300∧p.Value.length≤300
 hops:e.Hops.length≤8∧∀ h∈e.Hops,h.Node.length≤300
def Lv (o:Option Int) (P:Prop):Prop:=∃ v,o=some v∧(v=0→P)
theorem Lv.of {v:Int} {P:Prop} (h:P):Lv (some v) P:=⟨v,rfl,fun _=>h⟩
theorem Lv.no {v:Int} {P:Prop} (h:v≠0):Lv (some v) P:=⟨v,rfl,fun e=>absurd e h⟩
theorem Lv.cond {b:Bool} {x y:Option Int} {P:Prop} (h1:Lv x P) (h2:Lv y P):Lv (cond b x y) P:=by cases b<;>assumption
structure PubE (e:Qe):Prop where
 proto:e.Proto=1∨e.Proto=2∨e.Proto=3∨e.Proto=4
 kind:e.Kind=1
 qos:e.QoS = -1∨e.QoS=0∨e.QoS=1∨e.QoS=2
theorem Qzg (N:Nat) (p:Int):Q4v N p=some (decide (p=1∨p=2∨p=3∨p=4)):=by
 by_cases h:p=1∨p=2∨p=3∨p=4
 ·rw [Ad h];rcases h with rfl | rfl | rfl | rfl<;>rfl
 have h0:Q55 Q2l p=none:=by
  have h1:(p == 1)=false:=by simp;omega
  have h2:(p == 2)=false:=by simp;omega
  have h3:(p == 3)=false:=by simp;omega
  have h4:(p == 4)=false:=by simp;omega
  unfold Q2l;simp only [Q55,h1,h2,h3,h4,Ah]
 unfold Q4v;rw [h0,Ab h];rfl
end
end Go.Av
namespace Go.Av
noncomputable section
open Go.Proofs
set_option maxRecDepth 100000
end
end Go.Av
namespace Go.Av
noncomputable section
open Go.Proofs
set_option maxRecDepth 100000
end
end Go.Av
namespace Go.Av
noncomputable section
open Go.Proofs
set_option maxRecDepth 100000
end
end Go.Av
namespace Go.Av
noncomputable section
open Go.Proofs
set_option maxRecDepth 100000
theorem Z22 (v:Q2) (h:v.txt):v.wgt≤430 * v.sz:=by
 induction v using Q2.ind with
 | h v ih=>
  rw [Q2.txt_eq] at h
  have hl:∀ l:List Q2,(∀ x∈l,x.wgt≤430 * x.sz)→Q2.wgts l≤430 * Q2.szs l:=by
   intro l
   induction l with
   | nil=>intro _;simp [Q2.wgts]
   | cons x l ihl=>
    intro h;have h1:=h x (.head _);have h2:=ihl (fun y hy=>h y (.tail _ hy));simp only [Q2.wgts,Q2.szs];omega
  have:=hl v.Items (fun x hx=>ih x hx (Qme _ h.2 x hx));rw [v.wgt_eq,v.sz_eq];omega
end
end Go.Av
namespace Go.Av
noncomputable section
open Go.Proofs
set_option maxRecDepth 100000
end
end Go.Av
namespace Go.Av
noncomputable section
open Go.Proofs
set_option maxRecDepth 100000
end
end Go.Av
namespace Go.Av
noncomputable section
open Go.Proofs
set_option maxRecDepth 100000
structure FB (f:Yy):Prop where
 fine:∀ x∈f.Values,Fine x
 sz:Q2.szs f.Values<160000000
 wgt:Q2.wgts f.Values<4000000000
theorem FB.len {f:Yy} (h:FB f):f.Values.length<160000000:=by
 have h1:=Q2.szs_len f.Values;have h2:=h.sz;omega
end
end Go.Av
namespace Go.Av
noncomputable section
open Go.Proofs
set_option maxRecDepth 100000
theorem Yy.ext' {a b:Yy} (h1:a.Type'=b.Type') (h2:a.Channel=b.Channel) (h3:a.Ext=b.Ext) (h4:a.Values=b.Values):a=b:=by cases a;cases b;simp_all
noncomputable instance:DecidableEq Yy:=fun a b=>decidable_of_iff (a.Type'=b.Type'∧a.Channel=b.Channel∧a.Ext=b.Ext∧a.Values=b.Values) ⟨fun h=>Yy.ext' h.1 h.2.1 h.2.2.1 h.2.2.2,fun h=>by rw [h];exact ⟨rfl,rfl,rfl,rfl⟩⟩
theorem Qr2 (l m:List Q2) (i:Nat) (h:i<l.length) (h':i<m.length):decide (l.drop i=m.drop i)=(decide (l[i]=m[i])&&decide (l.drop (i+1)=m.drop (i+1))):=by
 rw [Mp h,Mp h',Ce];simp only [Ag,La,Ca]
theorem Qoe {N:Nat} (hN:800000000≤N) {a b:Yy} (ha:Q2.szs a.Values<700000000) (hl:a.Values.length=b.Values.length):∀ (n i:Nat),i≤a.Values.length→a.Values.length - i<n→Wd N a b n (i:Int)=some (decide (a.Values.drop i=b.Values.drop i))
 | 0,i,_,h=>by omega
 | n+1,i,hi,hn=>by
  have hs:=Q2.szs_len a.Values;simp only [Wd,Q4p,Qny,Q26,Q9t]
  by_cases h:i<a.Values.length
  ·have h':i<b.Values.length:=by omega
   have hx:=Q2.szs_mem _ _ (Md h);rw [Af (by omega),Ld h,Ld h'];simp only [Ll];rw [Qus N _ _ (by omega) (by omega),Qr2 _ _ i h h'];simp only [Ll];rw [Q81 _ (by omega)];have ih:=Qoe hN ha hl n (i+1) (by omega) (by omega)
   have ih:Wd N a b n ((i:Int)+1)=some (decide (a.Values.drop (i+1)=b.Values.drop (i+1))):=by exact_mod_cast ih
   rw [ih];cases decide (a.Values[i]=b.Values[i])<;>rfl
  rw [Ae (by omega),Ma (by omega),Ma (by omega)];rfl
theorem Qmz {N:Nat} (hN:800000000≤N) (a b:Yy) (ha:Q2.szs a.Values<700000000):Q08 N a b=some (decide (a=b)):=by
 have hs:=Q2.szs_len a.Values;simp only [Q08,Q4p,Qz7,Qhf,Q26]
 by_cases h1:a.Type'=b.Type'
 ·rw [Ae (by simp [h1])]
  by_cases h2:a.Channel=b.Channel
  ·rw [Ae (by simp [h2])]
   by_cases h3:a.Ext=b.Ext
   ·rw [Ae (by simp [h3])]
    by_cases h4:a.Values.length=b.Values.length
    ·rw [Ae (by simp [h4])];have:=Qoe hN ha h4 N 0 (by omega) (by omega);rw [Mz,Mz] at this
     have:Wd N a b N 0=some (decide (a.Values=b.Values)):=by exact_mod_cast this
     rw [this]
     congr 1
     rw [Ce];simp only [Ag];exact ⟨fun h=>Yy.ext' h1 h2 h3 h,fun h=>by rw [h]⟩
    rw [Af (by omega),Ab (fun h=>h4 (by rw [h]))]
   rw [Af h3,Ab (fun h=>h3 (by rw [h]))]
  rw [Af h2,Ab (fun h=>h2 (by rw [h]))]
 rw [Af h1,Ab (fun h=>h1 (by rw [h]))]
theorem Qgm {N:Nat} (hN:800000000≤N) {a b:Yy} (ha:Q2.szs a.Values<700000000) (hl:a.Values.length=b.Values.length):∀ (n i:Nat),i≤a.Values.length→a.Values.length - i<n→Yc N a b n (i:Int)=some (decide (a.Values.drop i=b.Values.drop i))
 | 0,i,_,h=>by omega
 | n+1,i,hi,hn=>by
  have hs:=Q2.szs_len a.Values;simp only [Yc,Q4p,Qny,Q26,Q9t]
  by_cases h:i<a.Values.length
  ·have h':i<b.Values.length:=by omega
   have hx:=Q2.szs_mem _ _ (Md h);rw [Af (by omega),Ld h,Ld h'];simp only [Ll];rw [Qk8 N _ _ (by omega) (by omega),Qr2 _ _ i h h'];simp only [Ll];rw [Q81 _ (by omega)];have ih:=Qgm hN ha hl n (i+1) (by omega) (by omega)
   have ih:Yc N a b n ((i:Int)+1)=some (decide (a.Values.drop (i+1)=b.Values.drop (i+1))):=by exact_mod_cast ih
   rw [ih];cases decide (a.Values[i]=b.Values[i])<;>rfl
  rw [Ae (by omega),Ma (by omega),Ma (by omega)];rfl
theorem Qgt {N:Nat} (hN:800000000≤N) (a b:Yy) (ha:Q2.szs a.Values<700000000):Uk N a b=some (decide (a=b)):=by
 have hs:=Q2.szs_len a.Values;simp only [Uk,Q4p,Qz7,Qhf,Q26]
 by_cases h1:a.Type'=b.Type'
 ·rw [Ae (by simp [h1])]
  by_cases h2:a.Channel=b.Channel
  ·rw [Ae (by simp [h2])]
   by_cases h3:a.Ext=b.Ext
   ·rw [Ae (by simp [h3])]
    by_cases h4:a.Values.length=b.Values.length
    ·rw [Ae (by simp [h4])];have:=Qgm hN ha h4 N 0 (by omega) (by omega);rw [Mz,Mz] at this
     have:Yc N a b N 0=some (decide (a.Values=b.Values)):=by exact_mod_cast this
     rw [this]
     congr 1
     rw [Ce];simp only [Ag];exact ⟨fun h=>Yy.ext' h1 h2 h3 h,fun h=>by rw [h]⟩
    rw [Af (by omega),Ab (fun h=>h4 (by rw [h]))]
   rw [Af h3,Ab (fun h=>h3 (by rw [h]))]
  rw [Af h2,Ab (fun h=>h2 (by rw [h]))]
 rw [Af h1,Ab (fun h=>h1 (by rw [h]))]
theorem Qo6 {N:Nat} (hN:800000000≤N) {f:Yy} (hl:f.Values.length≤6):∀ (n i:Nat),i≤f.Values.length→f.Values.length - i<n→∃ b,Zk N f n (i:Int)=some b∧(b=true→∀ x∈f.Values.drop i,x.sz≤40∧x.txt)
 | 0,i,_,h=>by omega
 | n+1,i,hi,hn=>by
  simp only [Zk,Q4p,Qny,Q26,Q9t]
  by_cases h:i<f.Values.length
  ·rw [Af (by omega),Ld h];obtain ⟨b1,l1,l2⟩:=Qt0 N f.Values[i] (by omega);simp only [Ll,l1]
   cases b1 with
   | false=>exact ⟨false,rfl,fun h=>by cases h⟩
   | true=>
    rw [Q81 _ (by omega)];obtain ⟨b,e1,e2⟩:=Qo6 hN hl n (i+1) (by omega) (by omega);refine ⟨b,?_,fun hb x hx=>?_⟩
    ·simp only [Bw,Mh,Al];exact_mod_cast e1
    rw [Mp h] at hx
    rcases Ml.1 hx with rfl | hx
    ·exact l2 rfl
    exact e2 hb x hx
  rw [Ae (by omega),Ma (by omega)];exact ⟨true,rfl,fun _ x hx=>by cases hx⟩
theorem Qp3 {N:Nat} (hN:800000000≤N) (f:Yy):∃ b,Yq N f=some b∧(b=true→f.Values.length≤6∧f.Ext.length≤1100∧∀ x∈f.Values,x.sz≤40∧x.txt):=by
 simp only [Yq,Q4p,Z41,Q26]
 by_cases h1:(f.Values.length:Int)>6
 ·rw [Af h1];exact ⟨false,rfl,fun h=>by cases h⟩
 rw [Ae h1]
 by_cases h2:(f.Ext.length:Int)>1100
 ·rw [Af h2];exact ⟨false,rfl,fun h=>by cases h⟩
 rw [Ae h2];obtain ⟨b,e1,e2⟩:=Qo6 hN (f:=f) (by omega) N 0 (by omega) (by omega);refine ⟨b,by exact_mod_cast e1,fun hb=>⟨by omega,by omega,?_⟩⟩;have:=e2 hb
 rwa [Mz] at this
theorem Qky:∀ (l:List Q2),(∀ x∈l,x.sz≤40∧x.txt)→Q2.szs l≤40 * l.length∧Q2.wgts l≤17200 * l.length
 | [],_=>by simp [Q2.szs,Q2.wgts]
 | x::m,h=>by
  have h1:=h x (.head _);have h2:=Qky m (fun y hy=>h y (.tail _ hy));have h3:=Z22 x h1.2;simp only [Q2.szs,Q2.wgts,Li];omega
theorem Qye {f:Yy} (hl:f.Values.length≤6) (h:∀ x∈f.Values,x.sz≤40∧x.txt) (hv:∀ x∈f.Values,OkV x):FB f:=by
 obtain ⟨h1,h2⟩:=Qky _ h;exact ⟨fun x hx=>Z25 x (hv x hx) (h x hx).2,by omega,by omega⟩
end
end Go.Av
namespace Go.Av
noncomputable section
theorem Gq (x y:List UInt8):Q0p .eql x y=decide (x=y):=by
 show (x == y)=_
 by_cases h:x=y
 ·rw [h];simp
 rw [Ab h];exact beq_eq_false_iff_ne.2 h
theorem Q82 (x y:List UInt8):Q0p .neq x y=decide (x≠y):=by
 show (!(x == y))=_
 by_cases h:x=y
 ·rw [h];simp
 rw [Ad h,beq_eq_false_iff_ne.2 h];rfl
section
variable {T:Type}
theorem Qdt {L:Nat→Nat→Int→Option Bool} {a b:List T} {eq:T→T→Bool} (heq:∀ x y,eq x y=true↔x=y) (hab:a.length=b.length) (hm:a.length≤maxLen)
  (Zh:∀ N n (i:Nat) (h:i<a.length) (h':i<b.length),L N (n+1) (i:Int)=cond (!(eq a[i] b[i])) (some false) (L N n (wrap .i64 ((i:Int)+1)))) (fin:∀ N n,L N (n+1) (a.length:Int)=some true) :
  TotP (fun N=>L N N 0) (fun v=>v=true↔a=b):=by
 have hml:=Q9a;refine Q5n (L:=L) a.length (fun i=>∀ j (h:j<a.length) (h':j<b.length),j<i→a[j]=b[j]) (fun i hi hj=>?_) (fun hj=>?_) (fun j _ _ hj=>by omega)
 ·have e:(fun N n=>L N (n+1) (i:Int))=fun N n=>cond (!(eq (a[i]'hi) (b[i]'(by omega)))) (some false) (L N n (wrap .i64 ((i:Int)+1))):=by
   funext N n;exact Zh N n i hi (by omega)
  rw [e,w64 _ (by omega)];refine Stp.cond (fun h=>Stp.ret ?_) (fun h=>Stp.go (L:=L) _ ⟨by omega,fun j hj1 hj2 hji=>?_⟩)
  ·have h:¬ eq (a[i]'hi) (b[i]'(by omega))=true:=by simpa using h
   refine ⟨fun h=>(by cases h),fun e=>absurd ((heq _ _).2 ?_) h⟩;subst e;rfl
  have h:eq (a[i]'hi) (b[i]'(by omega))=true:=by simpa using h
  by_cases e:j=i
  ·subst e;exact (heq _ _).1 h
  exact hj j hj1 hj2 (by omega)
 have e:(fun N n=>L N (n+1) (a.length:Int))=fun _ _=>some true:=by funext N n;exact fin N n
 rw [e];exact Stp.ret ⟨fun _=>List.ext_getElem hab (fun j h1 h2=>hj j h1 h2 h1),fun _=>rfl⟩
end
theorem Z35 {x y:Qb}:(((x.ID:Int) == y.ID)&&(((x.N':Int) == y.N')&&(((x.Text:List UInt8) == y.Text)&&(((x.Value:List UInt8) == y.Value)&&true))))=true↔x=y:=by
 cases x;cases y;simp
theorem Za1 {x y:Q3f}:(((x.Radius:Int) == y.Radius)&&(((x.Node:List UInt8) == y.Node)&&true))=true↔x=y:=by
 cases x;cases y;simp
theorem Qx9 {x y:Qg}:(((x.Topic:List UInt8) == y.Topic)&&(((x.QoS:Int) == y.QoS)&&(((x.NoLocal:Bool) == y.NoLocal)&&(((x.AsPublished:Bool) == y.AsPublished)&&(((x.Handling:Int) == y.Handling)&&true)))))=true↔x=y:=by
 cases x;cases y;simp
theorem Qgr (a b:List Qb) (ha:a.length≤maxLen):TotP (fun N=>Uj N a b) (fun v=>v=true↔a=b):=by
 unfold Uj;rw [Q4,Q4,Qq];refine TotP.cond (fun h => .ret ⟨fun h=>(by cases h),fun e=>?_⟩) (fun h=>?_)
 ·have:=Aa h;subst e;exact absurd rfl this
 have h:=Ac h
 have hab:a.length=b.length:=by omega
 refine Qdt (L:=fun N n i=>V0 N a b n i) (eq:=fun x y=>((x.ID:Int) == y.ID)&&(((x.N':Int) == y.N')&&(((x.Text:List UInt8) == y.Text)&&(((x.Value:List UInt8) == y.Value)&&true)))) (fun _ _=>Z35) hab ha (fun N n i h h'=>?_) (fun N n=>?_)
 ·show cond (Q3 .lss (i:Int) ((Q6 Qb.cells a).length:Int)) ((idx a (i:Int)).bind _) _=_;rw [Q4,Qd,Ad (by omega),Z2 h,Z2 h'];rfl
 show cond (Q3 .lss (a.length:Int) ((Q6 Qb.cells a).length:Int)) _ _=_;rw [Q4,Qd,Ab (by omega)];rfl
theorem Qot (a b:List Qb) (ha:a.length≤maxLen):TotP (fun N=>Q72 N a b) (fun v=>v=true↔a=b):=by
 unfold Q72;rw [Q4,Q4,Qq];refine TotP.cond (fun h => .ret ⟨fun h=>(by cases h),fun e=>?_⟩) (fun h=>?_)
 ·have:=Aa h;subst e;exact absurd rfl this
 have h:=Ac h
 have hab:a.length=b.length:=by omega
 refine Qdt (L:=fun N n i=>Q2d N a b n i) (eq:=fun x y=>((x.ID:Int) == y.ID)&&(((x.N':Int) == y.N')&&(((x.Text:List UInt8) == y.Text)&&(((x.Value:List UInt8) == y.Value)&&true)))) (fun _ _=>Z35) hab ha (fun N n i h h'=>?_) (fun N n=>?_)
 ·show cond (Q3 .lss (i:Int) ((Q6 Qb.cells a).length:Int)) ((idx a (i:Int)).bind _) _=_;rw [Q4,Qd,Ad (by omega),Z2 h,Z2 h'];rfl
 show cond (Q3 .lss (a.length:Int) ((Q6 Qb.cells a).length:Int)) _ _=_;rw [Q4,Qd,Ab (by omega)];rfl
theorem Qqj (a b:List Q3f) (ha:a.length≤maxLen):TotP (fun N=>Xq N a b) (fun v=>v=true↔a=b):=by
 unfold Xq;rw [Q4,Q4,Qq];refine TotP.cond (fun h => .ret ⟨fun h=>(by cases h),fun e=>?_⟩) (fun h=>?_)
 ·have:=Aa h;subst e;exact absurd rfl this
 have h:=Ac h
 have hab:a.length=b.length:=by omega
 refine Qdt (L:=fun N n i=>Y3 N a b n i) (eq:=fun x y=>((x.Radius:Int) == y.Radius)&&(((x.Node:List UInt8) == y.Node)&&true)) (fun _ _=>Za1) hab ha (fun N n i h h'=>?_) (fun N n=>?_)
 ·show cond (Q3 .lss (i:Int) ((Q6 Q3f.cells a).length:Int)) ((idx a (i:Int)).bind _) _=_;rw [Q4,Qd,Ad (by omega),Z2 h,Z2 h'];rfl
 show cond (Q3 .lss (a.length:Int) ((Q6 Q3f.cells a).length:Int)) _ _=_;rw [Q4,Qd,Ab (by omega)];rfl
theorem Qk3 (a b:List Qg) (ha:a.length≤maxLen):TotP (fun N=>Uv N a b) (fun v=>v=true↔a=b):=by
 unfold Uv;rw [Q4,Q4,Qq];refine TotP.cond (fun h => .ret ⟨fun h=>(by cases h),fun e=>?_⟩) (fun h=>?_)
 ·have:=Aa h;subst e;exact absurd rfl this
 have h:=Ac h
 have hab:a.length=b.length:=by omega
 refine Qdt (L:=fun N n i=>W1 N a b n i) (eq:=fun x y=>((x.Topic:List UInt8) == y.Topic)&&(((x.QoS:Int) == y.QoS)&&(((x.NoLocal:Bool) == y.NoLocal)&&(((x.AsPublished:Bool) == y.AsPublished)&&(((x.Handling:Int) == y.Handling)&&true))))) (fun _ _=>Qx9) hab ha (fun N n i h h'=>?_) (fun N n=>?_)
 ·show cond (Q3 .lss (i:Int) ((Q6 Qg.cells a).length:Int)) ((idx a (i:Int)).bind _) _=_;rw [Q4,Qd,Ad (by omega),Z2 h,Z2 h'];rfl
 show cond (Q3 .lss (a.length:Int) ((Q6 Qg.cells a).length:Int)) _ _=_;rw [Q4,Qd,Ab (by omega)];rfl
theorem Qqd (a b:List Int) (ha:a.length≤maxLen):TotP (fun N=>Q2p N a b) (fun v=>v=true↔a=b):=by
 unfold Q2p;rw [Q4,Q4,Qq];refine TotP.cond (fun h => .ret ⟨fun h=>(by cases h),fun e=>?_⟩) (fun h=>?_)
 ·have:=Aa h;subst e;exact absurd rfl this
 have h:=Ac h
 have hab:a.length=b.length:=by omega
 refine Qdt (L:=fun N n i=>Jw N a b n i) (eq:=fun x y=>Q3 .eql x y) (fun x y=>by rw [Qa];exact decide_eq_true_iff) hab ha (fun N n i h h'=>?_) (fun N n=>?_)
 ·show cond (Q3 .lss (i:Int) ((Q6 (cI .i64) a).length:Int)) ((idx a (i:Int)).bind _) _=_;rw [Q4,Qd,Ad (by omega),Z2 h,Z2 h'];rfl
 show cond (Q3 .lss (a.length:Int) ((Q6 (cI .i64) a).length:Int)) _ _=_;rw [Q4,Qd,Ab (by omega)];rfl
structure Z03 (p:Q1):Prop where
 codes:p.Codes.length≤maxLen
 filters:p.Filters.length≤maxLen
 props:p.Props.length≤maxLen
 wprops:p.Will.Props.length≤maxLen
theorem Qnl (a b:Xn) (ha:a.Props.length≤maxLen):TotP (fun N=>Q2w N a b) (fun v=>v=true↔a=b):=by
 obtain ⟨t,p,q,r,l⟩:=a;obtain ⟨t',p',q',r',l'⟩:=b;unfold Q2w;dsimp only;rw [Gq,Gq,Qa];refine TotP.cond (fun h1=>?_) (fun h1 => .ret ⟨fun h=>(by cases h),fun e=>?_⟩)
 ·refine TotP.cond (fun h2=>?_) (fun h2 => .ret ⟨fun h=>(by cases h),fun e=>?_⟩)
  ·refine TotP.cond (fun h3=>?_) (fun h3 => .ret ⟨fun h=>(by cases h),fun e=>?_⟩)
   ·refine TotP.cond (fun h4=>?_) (fun h4 => .ret ⟨fun h=>(by cases h),fun e=>?_⟩)
    ·refine TotP.bind (Qgr l l' ha) (fun v hv => .ret ?_);rw [hv];have h1:=Aa h1;have h2:=Aa h2;have h3:=Aa h3;have h4:=eq_of_beq h4;subst h1 h2 h3 h4;simp
    injection e with _ _ _ e _;subst e;simp at h4
   injection e with _ _ e _ _;exact absurd e (Ac h3)
  injection e with _ e _ _ _;exact absurd e (Ac h2)
 injection e with e _ _ _ _;exact absurd e (Ac h1)
theorem Q1p (a b:Q1) (ha:Z03 a):TotP (fun N=>Z6 N a b) (fun v=>v=true↔a=b):=by
 unfold Z6;refine TotP.bindE (.of fun N=>rfl) ?_;refine TotP.bindE (.of fun N=>rfl) ?_;refine TotP.cond (fun h1=>?_) (fun h1 => .ret ⟨fun h=>(by cases h),fun e=>?_⟩)
 ·refine TotP.bind (Qnl a.Will b.Will ha.wprops) (fun v2 h2=>?_);refine TotP.cond (fun e2=>?_) (fun e2 => .ret ⟨fun h=>(by cases h),fun e=>?_⟩)
  ·refine TotP.bind (Qqd a.Codes b.Codes ha.codes) (fun v3 h3=>?_);refine TotP.cond (fun e3=>?_) (fun e3 => .ret ⟨fun h=>(by cases h),fun e=>?_⟩)
   ·refine TotP.bind (Qk3 a.Filters b.Filters ha.filters) (fun v4 h4=>?_);refine TotP.cond (fun e4=>?_) (fun e4 => .ret ⟨fun h=>(by cases h),fun e=>?_⟩)
    ·refine TotP.bind (Qgr a.Props b.Props ha.props) (fun v5 h5 => .ret ?_);rw [h5];have e2:=h2.1 e2;have e3:=h3.1 e3;have e4:=h4.1 e4;obtain ⟨a1,a2,a3,a4,a5,a6,a7,a8,a9,a10,a11,a12,a13,a14,a15,a16,a17,a18,a19,a20,a21⟩:=a;obtain ⟨b1,b2,b3,b4,b5,b6,b7,b8,b9,b10,b11,b12,b13,b14,b15,b16,b17,b18,b19,b20,b21⟩:=b;dsimp only at e2 e3 e4 ⊢;simp at h1;simp [h1,e2,e3,e4]
    subst e;exact absurd (h4.2 rfl) (by rw [e4];simp)
   subst e;exact absurd (h3.2 rfl) (by rw [e3];simp)
  subst e;exact absurd (h2.2 rfl) (by rw [e2];simp)
 subst e;simp at h1
end
end Go.Av
namespace Go.Av
noncomputable section
theorem TotP.any {R:Type} {f:Nat→Option R} {Q:R→Prop} (h:TotP f Q):Any f:=h.mono fun _ _=>trivial
theorem Z27 {k:Int} (h:0≤k∧k≤18446744073709551615):wrap .u64 k=k:=IntWalk.u64_in k h
theorem Qx8 (k:Int) (p:Qb):Tot (fun N=>Q1q N ⟨0,0,0,0⟩ k p) 9:=by
 refine .of fun N=>?_
 have e:Gz N ⟨0,0,0,0⟩ k=some false:=by
  unfold Gz;rw [Wx,Xu]
  by_cases h1:k≥1
  ·by_cases h2:k≤16
   ·rw [Ad h1,Ad h2]
    have:k=1∨k=2∨k=3∨k=4∨k=5∨k=6∨k=7∨k=8∨k=9∨k=10∨k=11∨k=12∨k=13∨k=14∨k=15∨k=16:=by omega
    rcases this with rfl | rfl | rfl | rfl | rfl | rfl | rfl | rfl | rfl | rfl | rfl | rfl | rfl | rfl | rfl | rfl<;>rfl
   rw [Ad h1,Ab h2];rfl
  rw [Ab h1];rfl
 unfold Q1q;rw [e];rfl
structure OkP (l:List Qb):Prop where
 len:l.length≤30
 txt:∀ p∈l,p.Text.length≤maxLen
theorem Qua (k c:Int):Any (fun N=>Q0q N k c):=by
 obtain ⟨w0,w1,w2,w3,e,_⟩:=Qi5 k;unfold Q0q Qxz;rw [e];unfold Z4o;rw [Wx,Qd];refine TotP.cond (fun h1=>?_) (fun _ => .ret trivial);refine TotP.cond (fun h2=>?_) (fun _ => .ret trivial);have h1:=Aa h1;have h2:=Aa h2;have e1:c.tdiv 64=c / 64:=Bk h1;have e2:c.tmod 64=c % 64:=Bx h1;rw [e1,e2,w64 _ (by omega)]
 have:c / 64=0∨c / 64=1∨c / 64=2∨c / 64=3:=by omega
 have hk:decide (0≤wrap .u64 (c % 64))=true:=by rw [Z27 (by omega),Ag];omega
 rcases this with h | h | h | h<;>rw [h]<;>exact TotP.bindE (.of fun _=>rfl) (TotP.chk hk (.ret trivial))
structure Qd0 (p:Q1):Prop where
 l:Z03 p
 props:OkP p.Props
 wprops:OkP p.Will.Props
 topic:p.Topic.length≤2000
 payload:p.Payload.length≤2000
 client:p.Client.length≤2000
 user:p.User.length≤2000
 pass:p.Pass.length≤2000
 wtopic:p.Will.Topic.length≤2000
 wpayload:p.Will.Payload.length≤2000
 codes:p.Codes.length≤30
 filters:p.Filters.length≤30∧∀ f∈p.Filters,f.Topic.length≤2000
theorem ml2:2000≤maxLen:=by unfold maxLen;decide
section
variable {p:Q1} (h:Qd0 p)
include h
end
end
end Go.Av
namespace Go.Av
noncomputable section
theorem Qln:∀ (l:List UInt8) (c:UInt8) (n:Nat),Qat l c n≤n+l.length
 | [],_,n=>Lj _
 | b::l,c,n=>by
  unfold Qat;split
  ·have:=Qln l c (n+1);simp only [Li];omega
  have:=Qln l c n;simp only [Li];omega
theorem Qg2:∀ (l:List UInt8) (c:UInt8) (i:Nat),Qdn l c i = -1∨∃ k:Nat,Qdn l c i=(k:Int)∧i≤k∧k<i+l.length
 | [],_,i => .inl rfl
 | b::l,c,i=>by
  unfold Qdn;split
  ·exact .inr ⟨i,rfl,Lj _,by simp⟩
  rcases Qg2 l c (i+1) with h | ⟨k,h1,h2,h3⟩
  ·exact .inl h
  exact .inr ⟨k,h1,by omega,by simp only [Li];omega⟩
def Z78 (s:List UInt8) (N n:Nat) (p:List UInt8×Int×List (List UInt8)):Option (List (List UInt8)):=Vv N s n p.1 p.2.1 p.2.2
end
end Go.Av
namespace Go.Av
noncomputable section
theorem ml7:70000≤maxLen:=by unfold maxLen;decide
section
variable {p:Q1} (h:Qd0 p)
include h
end
end
end Go.Av
namespace Go.Av
noncomputable section
theorem Q12 (n:Int) (h:0≤n∧n<18446744073709551616) (w:Nat) (hw:w≤8):Tot (fun N=>X6 N (wrap .u64 n) (w:Int)) (Qb4 n.toNat w):=by
 refine ⟨11,fun N hN=>?_⟩;have:=Z2n N n.toNat w (by omega) hw (by omega)
 rwa [show ((n.toNat:Nat):Int)=wrap .u64 n by rw [Z27 (by omega)];omega] at this
set_option maxRecDepth 20000 in
theorem Z4n (n i:Nat) (hi:i≤7):wrap .u8 (Qcl .u64 (n:Int) (wrap .u64 (wrap .i64 (8 * (i:Int)))))=((n / 256 ^ i % 256:Nat):Int):=by
 have e1:wrap .u64 (wrap .i64 (8 * (i:Int)))=((8 * i:Nat):Int):=by rw [w64 _ (by omega),Z27 (by omega)];omega
 rw [e1,Qp8];simp only [Qcl]
 have:min (((8 * i:Nat):Int).toNat) IntKind.u64.bits=8 * i:=by simp [IntKind.bits];omega
 rw [this,Cy _ (by have:=Qhy (8 * i);omega)];have e0:(2:Nat) ^ (8 * i)=256 ^ i:=Nat.pow_mul 2 8 i
 have e:((2:Int) ^ (8 * i))=((256 ^ i:Nat):Int):=by rw [← e0];push_cast;rfl
 rw [e]
 push_cast
 rfl
theorem Qyd (n w:Nat) (hw:1≤w∧w≤8):Tot (fun N=>Zl N (n:Int) (w:Int)) (Qb4 n w):=by
 refine TotP.tot ?_
 have hs:wrap .i64 ((ifB (decide ((ifB (decide ((16:Int)<(w:Int))) 16 (w:Int))>0)) (ifB (decide ((16:Int)<(w:Int))) 16 (w:Int)) 0) - 1)=((w:Int) - 1):=by
  rw [Ab (p:=(16:Int)<w) (by omega)];show wrap .i64 ((ifB (decide ((w:Int)>0)) (w:Int) 0) - 1)=_;rw [Ad (p:=(w:Int)>0) (by omega)];show wrap .i64 ((w:Int) - 1)=_;exact w64 _ (by omega)
 show TotP (fun N=>Ym N (n:Int) N (wrap .i64 _) []) _;rw [hs];refine Qas (L:=fun N m (q:Int×List Int)=>Ym N (n:Int) m q.1 q.2) (fun q=>∃ j:Nat,q.1=(j:Int) - 1∧j≤w∧q.2.length=w - j∧(q.2.map fun n=>UInt8.ofNat n.toNat)=Qb4 (n / 256 ^ j) (w - j)) (fun q=>(q.1+1).toNat) ?_ ((w:Int) - 1,[]) ⟨w,rfl,by omega,by simp,by rw [Cl];rfl⟩
 rintro ⟨i,l⟩ ⟨j,h1,h2,h3,h4⟩
 simp only at h1 h2 h3 h4
 show Stp _ _ _ (fun N m=>cond (Q3 .geq i 0) (cond (Q3 .lss i 8) _ _) _);dsimp only;rw [Wx,Qd];refine Stp.cond (fun g=>?_) (fun g=>Stp.ret ?_)
 ·have g:=Aa g;obtain ⟨k,rfl⟩:∃ k,j=k+1:=⟨j - 1,by omega⟩
  have hi:i=(k:Int):=by omega
  subst hi;refine Stp.cond (fun _=>?_) (fun g2=>absurd (Ac g2) (by omega));refine Stp.chk (Ad (by rw [w64 _ (by omega),Z27 (by omega)];omega)) ?_;refine Stp.chk (by rw [Ln];omega) ?_;rw [Z4n n k (by omega),w64 _ (by omega)];refine Stp.go (L:=fun N m (q:Int×List Int)=>Ym N (n:Int) m q.1 q.2) (_,_) ⟨⟨k,rfl,by omega,?_,?_⟩,by simp only;omega⟩
  ·simp only [Le,Lw];omega
  rw [Na,h4,show w - k=(w - (k+1))+1 by omega];show _=Qb4 (n / 256 ^ k / 256) (w - (k+1)) ++ [UInt8.ofNat (n / 256 ^ k % 256)];rw [Nat.div_div_eq_div_mul,← Nat.pow_succ];rfl
 have g:=Ac g
 obtain rfl:j=0:=by omega
 rw [h4,Nat.pow_zero,Nat.div_one,Nat.sub_zero]
theorem Q30 (n:Int) (h:0≤n∧n<18446744073709551616) (w:Nat) (hw:1≤w∧w≤8):Tot (fun N=>Zl N (wrap .u64 n) (w:Int)) (Qb4 n.toNat w):=by
 have:=Qyd n.toNat w hw
 rwa [show ((n.toNat:Nat):Int)=wrap .u64 n by rw [Z27 (by omega)];omega] at this
theorem bN {x:Bool} (h:(!x)=true):x=false:=by cases x;rfl;cases h
theorem bP {x:Bool} (h:(!x)=false):x=true:=by cases x;cases h;rfl
def Qgx (s:List UInt8):List UInt8:=Qb4 s.length 2++s
theorem Qld (s:List UInt8) (hs:s.length≤65535):Tot (fun N=>G6 N s) (Qgx s,0):=by
 refine TotP.tot ?_;unfold G6;rw [Qy];refine TotP.cond (fun g=>absurd (Aa g) (by omega)) (fun _=>?_);refine TotP.bind (V:=(· = Qgx s)) ?_ (fun b hb => .ret (by rw [hb]));unfold G5;refine TotP.bindE (Q12 (s.length:Int) (by omega) 2 (by omega)) (TotP.chk (by rw [Ln,Yv];omega) (.ret rfl))
theorem Qmi (s:List UInt8) (hs:s.length≤65535):Tot (fun N=>W7 N s) (Qgx s,0):=by
 refine TotP.tot ?_;unfold W7;rw [Qy];refine TotP.cond (fun g=>absurd (Aa g) (by omega)) (fun _=>?_);exact TotP.bindE (Q30 (s.length:Int) (by omega) 2 (by omega)) (TotP.chk (by rw [Ln,Yv];omega) (.ret rfl))
def vb (n:Nat):List UInt8:=if n<128 then [UInt8.ofNat n] else UInt8.ofNat (n % 128+128)::vb (n / 128)
termination_by n
decreasing_by omega
theorem Qpz {n:Nat} (h:n<128):vb n = [UInt8.ofNat n]:=by rw [vb,Af h]
theorem Qnq {n:Nat} (h:128≤n):vb n=UInt8.ofNat (n % 128+128)::vb (n / 128):=by rw [vb,Ae (by omega)]
theorem Qxc {n:Nat} (h:n≤268435455):(vb n).length=if n<128 then 1 else if n<16384 then 2 else if n<2097152 then 3 else 4:=by
 by_cases h1:n<128
 ·rw [Qpz h1,Af h1];rfl
 rw [Ae h1,Qnq (by omega),Li]
 by_cases h2:n<16384
 ·rw [Qpz (by omega),Af h2];rfl
 rw [Ae h2,Qnq (by omega),Li]
 by_cases h3:n<2097152
 ·rw [Qpz (by omega),Af h3];rfl
 rw [Ae h3,Qnq (by omega),Li,Qpz (by omega)];rfl
theorem Qpv {n:Nat} (h:n≤268435455):1≤(vb n).length∧(vb n).length≤4:=by
 rw [Qxc h]
 (repeat' split)<;>omega
theorem Z7d {a:Nat} (h:a<128):orI .u8 (a:Int) 128=((a+128:Nat):Int):=by
 have:∀ a:Fin 128,orI .u8 ((a.val:Nat):Int) 128=((a.val+128:Nat):Int):=by decide +kernel
 exact this ⟨a,h⟩
theorem Qmd (n:Nat) (h:n≤268435455):Tot (fun N=>Je N (n:Int)) (vb n,0):=by
 refine TotP.tot ?_;unfold Je Q4g;rw [Wx,Xu,Ad (p:=(n:Int)≥0) (by omega),Ad (by omega)];refine TotP.bindE (v:=true) (.of fun _=>rfl) ?_;refine TotP.cond (fun g=>nomatch g) (fun _=>?_);refine Qas (L:=fun N m (q:Int×List Int)=>J3 N m q.1 q.2) (fun q=>∃ x:Nat,q.1=(x:Int)∧x≤n∧q.2.length+(vb x).length=(vb n).length∧(q.2.map fun n=>UInt8.ofNat n.toNat)++vb x=vb n) (fun q=>q.1.toNat) ?_ ((n:Int),[]) ⟨n,rfl,by omega,by simp,by simp⟩;have hl:=Qxc h;have hl4:=Qpv h
 rintro ⟨s,l⟩ ⟨x,h1,h2,h3,h4⟩
 simp only at h1 h2 h3 h4
 subst h1;show Stp _ _ _ (fun N m=>cond (Q3 .geq (x:Int) 128) _ _);dsimp only;rw [Wx];refine Stp.cond (fun g=>?_) (fun g=>?_)
 ·have g:128≤x:=by have:=Aa g;omega
  refine Stp.chk (by rw [Ln];omega) ?_
  have e1:wrap .i64 ((x:Int).tdiv 128)=((x / 128:Nat):Int):=by rw [Bk (by omega),w64 _ (by omega)];omega
  have e2:orI .u8 (wrap .u8 ((x:Int).tmod 128)) 128=((x % 128+128:Nat):Int):=by
   rw [Bx (by omega),Qp8,← Z7d (Nat.mod_lt x (by decide))]
   congr 1
   omega
  rw [Qnq g,Li] at h3;rw [Qnq g] at h4;rw [e1,e2];refine Stp.go (L:=fun N m (q:Int×List Int)=>J3 N m q.1 q.2) (_,_) ⟨⟨x / 128,rfl,by omega,?_,?_⟩,by simp only [Lt];omega⟩
  ·simp only [Le,Lw];omega
  rw [Na,Lq];exact h4
 have g:x<128:=by have:=Ac g;omega
 refine Stp.chk (by rw [Ln];omega) (Stp.ret ?_);rw [Qpz g] at h4;rw [Na,← h4,Qp8,show (x:Int) % 256=x by omega];rfl
theorem Qmq (n:Nat) (h:n≤268435455):Tot (fun N=>Wo N (n:Int)) (vb n,0):=by
 refine TotP.tot ?_;have hl:=Qxc h;have hl4:=Qpv h;unfold Wo
 have hs:∀ N,Gj N (n:Int)=some ((vb n).length:Int):=fun N=>by
  unfold Gj;rw [Qd,Qy,Qd,Qd,Qd,Ab (p:=(n:Int)<0) (by omega),Ab (p:=(n:Int)>268435455) (by omega),hl]
  by_cases h1:n<128
  ·rw [Ad (p:=(n:Int)<128) (by omega),Af h1];rfl
  rw [Ab (p:=(n:Int)<128) (by omega),Ae h1]
  by_cases h2:n<16384
  ·rw [Ad (p:=(n:Int)<16384) (by omega),Af h2];rfl
  rw [Ab (p:=(n:Int)<16384) (by omega),Ae h2]
  by_cases h3:n<2097152
  ·rw [Ad (p:=(n:Int)<2097152) (by omega),Af h3];rfl
  rw [Ab (p:=(n:Int)<2097152) (by omega),Ae h3];rfl
 refine TotP.bindE (.of hs) ?_;rw [Qa,Ab (by omega)];refine Qas (L:=fun N m (q:Int×Int×List Int)=>Y4 N ((vb n).length:Int) m q.1 q.2.1 q.2.2) (fun q=>∃ x i:Nat,q.1=(x:Int)∧q.2.1=(i:Int)∧i≤(vb n).length∧q.2.2.length=i∧x≤n∧((i=(vb n).length∧(q.2.2.map fun n=>UInt8.ofNat n.toNat)=vb n)∨(i+(vb x).length=(vb n).length∧(q.2.2.map fun n=>UInt8.ofNat n.toNat)++vb x=vb n))) (fun q=>(vb n).length - q.2.1.toNat) ?_ ((n:Int),0,[]) ⟨n,0,rfl,rfl,by omega,rfl,by omega,.inr ⟨by simp,by simp⟩⟩
 rintro ⟨s,i',l⟩ ⟨x,i,h1,h2,h3,h4,h5,h6⟩
 simp only at h1 h2 h3 h4 h5 h6
 subst h1;subst h2;show Stp _ _ _ (fun N m=>cond (Q3 .lss (i:Int) ((vb n).length:Int)) (cond (Q3 .lss (wrap .i64 ((i:Int)+1)) ((vb n).length:Int)) _ _) _);dsimp only
 have ei:wrap .i64 ((i:Int)+1)=((i+1:Nat):Int):=by rw [w64 _ (by omega)];omega
 have e1:wrap .i64 ((x:Int).tdiv 128)=((x / 128:Nat):Int):=by rw [Bk (by omega),w64 _ (by omega)];omega
 have e2:wrap .u8 ((x:Int).tmod 128)=((x % 128:Nat):Int):=by rw [Bx (by omega),Qp8];omega
 rw [ei,e1,e2,Qd,Qd];refine Stp.cond (fun g=>?_) (fun g=>?_)
 ·have g:i<(vb n).length:=by have:=Aa g;omega
  rcases h6 with h6 | ⟨h6,h7⟩
  ·omega
  refine Stp.cond (fun g2=>?_) (fun g2=>?_)
  ·have g2:i+1<(vb n).length:=by have:=Aa g2;omega
   have gx:128≤x:=by
    refine Nat.le_of_not_lt fun hx=>?_;rw [Qpz hx,Lw] at h6;omega
   rw [Qnq gx,Li] at h6;rw [Qnq gx] at h7;refine Stp.chk (by rw [Ln];omega) ?_
   have e3:wrap .u8 (((x % 128:Nat):Int)+128)=((x % 128+128:Nat):Int):=by rw [Qp8];omega
   rw [e3];refine Stp.go (L:=fun N m (q:Int×Int×List Int)=>Y4 N ((vb n).length:Int) m q.1 q.2.1 q.2.2) (_,_,_) ⟨⟨x / 128,i+1,rfl,rfl,by omega,by simp only [Le,Lw];omega,by omega,.inr ⟨by omega,?_⟩⟩,by simp only [Lt];omega⟩;rw [Na,Lq];exact h7
  have g2:¬ i+1<(vb n).length:=by have:=Ac g2;omega
  have gx:x<128:=by
   refine Nat.lt_of_not_le fun hx=>?_;rw [Qnq hx,Li] at h6;have:=Qpv (n:=x / 128) (by omega);omega
  rw [Qpz gx] at h7 h6;refine Stp.chk (by rw [Ln];omega) ?_;refine Stp.go (L:=fun N m (q:Int×Int×List Int)=>Y4 N ((vb n).length:Int) m q.1 q.2.1 q.2.2) (_,_,_) ⟨⟨x / 128,i+1,rfl,rfl,by omega,by simp only [Le,Lw];omega,by omega,.inl ⟨by simp only [Lw] at h6;omega,?_⟩⟩,by simp only [Lt];omega⟩;rw [Na,← h7,show x % 128=x by omega];rfl
 have g:¬ i<(vb n).length:=by have:=Ac g;omega
 refine Stp.ret ?_
 rcases h6 with ⟨_,h6⟩ | ⟨h6,h7⟩
 ·rw [h6]
 have:=Qpv (n:=x) (by omega);omega
end
end Go.Av
namespace Go.Av
noncomputable section
open Go.Proofs
theorem Zw0 (x:Nat) (h:x≤9223372036854775807):wrap .i64 (x:Int)=x:=w64 _ (by omega)
theorem Qq3 (N:Nat) (s:List UInt8) (j:Nat):Ya N s (j:Int)=some (if goes s j then (((at8 s j - 128:Nat):Int),true) else (0,false)):=by
 unfold Ya;rw [Wx]
 by_cases hj:j<s.length
 ·have hb:=Di s[j];rw [Ab (show ¬ ((j:Int)≥(s.length:Int)) by omega),Ah,Z2 hj,Ll,Qd,Ll,Qy,Ll];have e:=Qdb hj
  by_cases h1:at8 s j<128
  ·rw [Ad (by omega),Ai,Ae (fun h=>by have:=h.2.1;omega)]
  rw [Ab (by omega),Ah]
  by_cases h2:at8 s j<192
  ·rw [Ab (by omega),Ah,Af ⟨hj,by omega,h2⟩,w64 ((s[j]).toNat:Int) (by omega),w64 _ (by omega)]
   congr 2;omega
  rw [Ad (by omega),Ai,Ae (fun h=>h2 h.2.2)]
 rw [Ad (show ((j:Int)≥(s.length:Int)) by omega),Ai,Ae (fun h=>hj h.1)]
theorem Z8k (N:Nat) (s:List UInt8) (i n x k:Nat) (hk:k<2) (hx:x<1099511627776) (hi:i≤4611686018427387904):Zg N s (i:Int) (n+1) (x:Int) (k:Int) =
  if goes s (i+k) then Zg N s (i:Int) n ((64 * x+(at8 s (i+k) - 128):Nat):Int) ((k+1:Nat):Int) else some (0,0):=by
 have hb:=Qcu s (i+k);rw [Zg,Qd,Ad (by omega),Ai,show wrap .i64 ((i:Int)+(k:Int))=((i+k:Nat):Int) by rw [w64 _ (by omega)];omega,Qq3,Ll]
 by_cases g:goes s (i+k)
 ·rw [Af g,Af g];show Zg N s (i:Int) n (wrap .i64 (wrap .i64 (64 * (x:Int))+((at8 s (i+k) - 128:Nat):Int))) (wrap .i64 ((k:Int)+1))=_;rw [w64 (64 * (x:Int)) (by omega),w64 _ (by omega),w64 _ (by omega)]
  congr 1
 rw [Ae g,Ae g];rfl
theorem Z6j (N:Nat) (s:List UInt8) (i n x:Nat):Zg N s (i:Int) (n+1) (x:Int) ((2:Nat):Int)=if 128≤x∧Qfh x then some ((x:Int),2) else some (0,0):=by
 rw [Zg,Qd,Ab (by omega),Ah,Qd,Qy,Wx,Xu];unfold Qfh
 by_cases h1:x<128
 ·rw [Ad (by omega),Ai,Ae (by omega)]
 rw [Ab (show ¬ ((x:Int)<128) by omega),Ah]
 by_cases h2:x≤1114111
 ·rw [Ab (show ¬ ((x:Int)>1114111) by omega),Ah]
  by_cases h3:55296≤x
  ·rw [Ad (show ((x:Int)≥55296) by omega),Ai]
   by_cases h4:x≤57343
   ·rw [Ad (show ((x:Int)≤57343) by omega),Ai,Ae (by omega)]
   rw [Ab (show ¬ ((x:Int)≤57343) by omega),Ah,Af (by omega)]
  rw [Ab (show ¬ ((x:Int)≥55296) by omega),Ah,Af (by omega)]
 rw [Ad (show ((x:Int)>1114111) by omega),Ai,Ae (by omega)]
theorem Z6e (N:Nat) (s:List UInt8) (i n x k:Nat) (hk:k<3) (hx:x<1099511627776) (hi:i≤4611686018427387904):Zd N s (i:Int) (n+1) (x:Int) (k:Int) =
  if goes s (i+k) then Zd N s (i:Int) n ((64 * x+(at8 s (i+k) - 128):Nat):Int) ((k+1:Nat):Int) else some (0,0):=by
 have hb:=Qcu s (i+k);rw [Zd,Qd,Ad (by omega),Ai,show wrap .i64 ((i:Int)+(k:Int))=((i+k:Nat):Int) by rw [w64 _ (by omega)];omega,Qq3,Ll]
 by_cases g:goes s (i+k)
 ·rw [Af g,Af g];show Zd N s (i:Int) n (wrap .i64 (wrap .i64 (64 * (x:Int))+((at8 s (i+k) - 128:Nat):Int))) (wrap .i64 ((k:Int)+1))=_;rw [w64 (64 * (x:Int)) (by omega),w64 _ (by omega),w64 _ (by omega)]
  congr 1
 rw [Ae g,Ae g];rfl
theorem Z40 (N:Nat) (s:List UInt8) (i n x:Nat):Zd N s (i:Int) (n+1) (x:Int) ((3:Nat):Int)=if 2048≤x∧Qfh x then some ((x:Int),3) else some (0,0):=by
 rw [Zd,Qd,Ab (by omega),Ah,Qd,Qy,Wx,Xu];unfold Qfh
 by_cases h1:x<2048
 ·rw [Ad (by omega),Ai,Ae (by omega)]
 rw [Ab (show ¬ ((x:Int)<2048) by omega),Ah]
 by_cases h2:x≤1114111
 ·rw [Ab (show ¬ ((x:Int)>1114111) by omega),Ah]
  by_cases h3:55296≤x
  ·rw [Ad (show ((x:Int)≥55296) by omega),Ai]
   by_cases h4:x≤57343
   ·rw [Ad (show ((x:Int)≤57343) by omega),Ai,Ae (by omega)]
   rw [Ab (show ¬ ((x:Int)≤57343) by omega),Ah,Af (by omega)]
  rw [Ab (show ¬ ((x:Int)≥55296) by omega),Ah,Af (by omega)]
 rw [Ad (show ((x:Int)>1114111) by omega),Ai,Ae (by omega)]
theorem Z1v (N:Nat) (s:List UInt8) (i n x k:Nat) (hk:k<4) (hx:x<1099511627776) (hi:i≤4611686018427387904):Ze N s (i:Int) (n+1) (x:Int) (k:Int) =
  if goes s (i+k) then Ze N s (i:Int) n ((64 * x+(at8 s (i+k) - 128):Nat):Int) ((k+1:Nat):Int) else some (0,0):=by
 have hb:=Qcu s (i+k);rw [Ze,Qd,Ad (by omega),Ai,show wrap .i64 ((i:Int)+(k:Int))=((i+k:Nat):Int) by rw [w64 _ (by omega)];omega,Qq3,Ll]
 by_cases g:goes s (i+k)
 ·rw [Af g,Af g];show Ze N s (i:Int) n (wrap .i64 (wrap .i64 (64 * (x:Int))+((at8 s (i+k) - 128:Nat):Int))) (wrap .i64 ((k:Int)+1))=_;rw [w64 (64 * (x:Int)) (by omega),w64 _ (by omega),w64 _ (by omega)]
  congr 1
 rw [Ae g,Ae g];rfl
theorem Z4t (N:Nat) (s:List UInt8) (i n x:Nat):Ze N s (i:Int) (n+1) (x:Int) ((4:Nat):Int)=if 65536≤x∧Qfh x then some ((x:Int),4) else some (0,0):=by
 rw [Ze,Qd,Ab (by omega),Ah,Qd,Qy,Wx,Xu];unfold Qfh
 by_cases h1:x<65536
 ·rw [Ad (by omega),Ai,Ae (by omega)]
 rw [Ab (show ¬ ((x:Int)<65536) by omega),Ah]
 by_cases h2:x≤1114111
 ·rw [Ab (show ¬ ((x:Int)>1114111) by omega),Ah]
  by_cases h3:55296≤x
  ·rw [Ad (show ((x:Int)≥55296) by omega),Ai]
   by_cases h4:x≤57343
   ·rw [Ad (show ((x:Int)≤57343) by omega),Ai,Ae (by omega)]
   rw [Ab (show ¬ ((x:Int)≤57343) by omega),Ah,Af (by omega)]
  rw [Ab (show ¬ ((x:Int)≥55296) by omega),Ah,Af (by omega)]
 rw [Ad (show ((x:Int)>1114111) by omega),Ai,Ae (by omega)]
def ptF (q:Nat×Nat):Int×Int:=if q.1=65533∧q.2=1 then (0,0) else ((q.1:Int),(q.2:Int))
theorem Qnm {c w:Nat} (h:¬ (c=65533∧w=1)):ptF (c,w)=((c:Int),(w:Int)):=Ae h
theorem Qan:ptF (65533,1)=(0,0):=Af ⟨rfl,rfl⟩
def ptR (s:List UInt8) (i:Nat):Int×Int:=ptF (Q6n s i)
theorem Qxo (s:List UInt8) (i:Nat) (hi:i<s.length) (hs:s.length≤4611686018427387904) (M:Nat):Vo (M+5) s (i:Int)=some (ptR s i):=by
 have hb:=Qcu s i;have hb1:=Qcu s (i+1);have hb2:=Qcu s (i+(1+1));have e:=Qdb hi
 have hw:wrap .i64 ((s[i]).toNat:Int)=(at8 s i:Int):=by rw [← e];exact Zw0 _ (by omega)
 unfold Vo;rw [Z2 hi,Ll,hw];simp only [Qd,Wx];unfold ptR Q6n
 by_cases c1:at8 s i<128
 ·rw [Ad (by omega),Ai,Af c1,Qnm (by omega)];rfl
 rw [Ab (show ¬ ((at8 s i:Int)<128) by omega),Ah,Ae c1]
 by_cases c2:at8 s i<192
 ·rw [Ab (show ¬ ((at8 s i:Int)≥192) by omega),Ah,Ab (show ¬ ((at8 s i:Int)≥224) by omega),Ah,Ab (show ¬ ((at8 s i:Int)≥240) by omega),Ah,
   Ae (by omega),Ae (by omega),Ae (by omega),Qan]
 rw [Ad (show ((at8 s i:Int)≥192) by omega),Ai]
 by_cases c3:at8 s i<224
 ·rw [Ad (show ((at8 s i:Int)<224) by omega),Ai,Ae (c:=224≤at8 s i∧_) (by omega),Ae (c:=240≤at8 s i∧_) (by omega)]
  have h0:wrap .i64 ((at8 s i:Int) - 192)=((at8 s i - 192:Nat):Int):=by rw [w64 _ (by omega)];omega
  rw [h0,show (1:Int)=((1:Nat):Int) from rfl,Z8k _ _ _ _ _ _ (by omega) (by omega) (by omega)]
  by_cases g1:goes s (i+1)
  ·rw [Af g1,show 1+1=2 from rfl,Z6j];have hg:=g1.2
   by_cases c4:128≤64 * (at8 s i - 192)+(at8 s (i+1) - 128)
   ·rw [Af ⟨c4,by unfold Qfh;omega⟩,Af ⟨by omega,c3,g1,c4⟩,Qnm (by omega)];rfl
   rw [Ae (fun h=>c4 h.1),Ae (fun h=>c4 h.2.2.2),Qan]
  rw [Ae g1,Ae (fun h=>g1 h.2.2.1),Qan]
 rw [Ab (show ¬ ((at8 s i:Int)<224) by omega),Ah,Ad (show ((at8 s i:Int)≥224) by omega),Ai,Ae (c:=192≤at8 s i∧_) (by omega)]
 by_cases c5:at8 s i<240
 ·rw [Ad (show ((at8 s i:Int)<240) by omega),Ai,Ae (c:=240≤at8 s i∧_) (by omega)]
  have h0:wrap .i64 ((at8 s i:Int) - 224)=((at8 s i - 224:Nat):Int):=by rw [w64 _ (by omega)];omega
  rw [h0,show (1:Int)=((1:Nat):Int) from rfl,Z6e _ _ _ _ _ _ (by omega) (by omega) (by omega)]
  by_cases g1:goes s (i+1)
  ·have hg1:=g1.2;rw [Af g1,Z6e _ _ _ _ _ _ (by omega) (by omega) (by omega)]
   by_cases g2:goes s (i+2)
   ·have hg2:=g2.2;rw [Af g2,show 1+1+1=3 from rfl,Z40]
    by_cases c4:2048≤64 * (64 * (at8 s i - 224)+(at8 s (i+1) - 128))+(at8 s (i+2) - 128)∧Qfh (64 * (64 * (at8 s i - 224)+(at8 s (i+1) - 128))+(at8 s (i+2) - 128))
    ·rw [Af c4,Af ⟨by omega,c5,g1,g2,c4⟩,Qnm (by omega)];rfl
    rw [Ae c4,Ae (fun h=>c4 h.2.2.2.2),Qan]
   rw [Ae g2,Ae (fun h=>g2 h.2.2.2.1),Qan]
  rw [Ae g1,Ae (fun h=>g1 h.2.2.1),Qan]
 rw [Ab (show ¬ ((at8 s i:Int)<240) by omega),Ah,Ad (show ((at8 s i:Int)≥240) by omega),Ai,Ae (c:=224≤at8 s i∧_) (by omega)]
 by_cases c6:at8 s i<248
 ·rw [Ad (show ((at8 s i:Int)<248) by omega),Ai]
  have h0:wrap .i64 ((at8 s i:Int) - 240)=((at8 s i - 240:Nat):Int):=by rw [w64 _ (by omega)];omega
  rw [h0,show (1:Int)=((1:Nat):Int) from rfl,Z1v _ _ _ _ _ _ (by omega) (by omega) (by omega)]
  by_cases g1:goes s (i+1)
  ·have hg1:=g1.2;rw [Af g1,Z1v _ _ _ _ _ _ (by omega) (by omega) (by omega)]
   by_cases g2:goes s (i+2)
   ·have hg2:=g2.2;rw [Af g2,Z1v _ _ _ _ _ _ (by omega) (by omega) (by omega)]
    by_cases g3:goes s (i+3)
    ·have hg3:=g3.2;rw [Af g3,show 1+1+1+1=4 from rfl,Z4t]
     by_cases c4:65536≤64 * (64 * (64 * (at8 s i - 240)+(at8 s (i+1) - 128))+(at8 s (i+2) - 128))+(at8 s (i+3) - 128)∧Qfh (64 * (64 * (64 * (at8 s i - 240)+(at8 s (i+1) - 128))+(at8 s (i+2) - 128))+(at8 s (i+3) - 128))
     ·rw [Af c4,Af ⟨by omega,c6,g1,g2,g3,c4⟩,Qnm (by omega)];rfl
     rw [Ae c4,Ae (fun h=>c4 h.2.2.2.2.2),Qan]
    rw [Ae g3,Ae (fun h=>g3 h.2.2.2.2.1),Qan]
   rw [Ae g2,Ae (fun h=>g2 h.2.2.2.1),Qan]
  rw [Ae g1,Ae (fun h=>g1 h.2.2.1),Qan]
 rw [Ab (show ¬ ((at8 s i:Int)<248) by omega),Ah,Ae (fun h=>c6 h.2.1),Qan]
theorem Qx7 (s:List UInt8) (i:Nat) (hi:i<s.length) (hs:s.length≤4611686018427387904):Tot (fun N=>Vo N s (i:Int)) (ptR s i):=
 ⟨5,fun N hN=>by obtain ⟨M,rfl⟩:∃ M,N=M+5:=⟨N - 5,by omega⟩;exact Qxo s i hi hs M⟩
theorem Qyp (s:List UInt8) (hs:s.length≤4611686018427387904):Tot (fun N=>Q22 N s) (Z3n (Qgc s 0)):=by
 refine TotP.tot ?_;refine Qas (L:=fun N n (p:Int)=>W6 N s n p) (fun p=>∃ i:Nat,p=(i:Int)∧i≤s.length∧Qgc s i=Qgc s 0) (fun p=>s.length - p.toNat) ?_ 0 ⟨0,rfl,Lm _,rfl⟩
 rintro p ⟨i,rfl,hi,hb0⟩
 show Stp _ _ _ (fun N n=>cond (Q3 .lss (i:Int) (s.length:Int)) _ _);rw [Qd];refine Stp.cond (fun h=>?_) (fun h=>?_)
 ·have hl:i<s.length:=by have:=Aa h;omega
  have hw:=Qi8 s i hl
  have hb:Qgc s i=(if (Q6n s i).1=0∨Qox s i then some i else Qgc s (i+(Q6n s i).2)):=by rw [Qgc,dif_pos hl]
  refine Stp.bind (V:=(· = ptR s i)) ⟨_,rfl,Qx7 s i hl hs⟩ ?_
  rintro v rfl
  unfold ptR
  by_cases hn:Qox s i
  ·rw [Af (.inr hn)] at hb;unfold Qox at hn;rw [hn,Qan];refine Stp.ret ?_;rw [← hb0,hb];rfl
  have hp:ptF (Q6n s i)=(((Q6n s i).1:Int),((Q6n s i).2:Int)):=Qnm (c:=(Q6n s i).1) (w:=(Q6n s i).2) (fun h=>hn (by unfold Qox;rw [← h.1,← h.2]));rw [hp,Qa,Qa];refine Stp.cond (fun h2=>by have:=Aa h2;have:=hw.1;omega) (fun _=>?_);refine Stp.cond (fun h0=>?_) (fun h0=>?_)
  ·have h0:(Q6n s i).1=0:=by have:=Aa h0;omega
   refine Stp.ret ?_;rw [← hb0,hb,Af (.inl h0)];rfl
  have h0:(Q6n s i).1≠0:=by have:=Ac h0;omega
  have e:wrap .i64 ((i:Int)+((Q6n s i).2:Int))=((i+(Q6n s i).2:Nat):Int):=by rw [w64 _ (by have:=hw.2.1;omega)];omega
  show Stp _ _ _ (fun N n=>W6 N s n (wrap .i64 ((i:Int)+((Q6n s i).2:Int))));rw [e];refine Stp.go _ ⟨⟨_,rfl,hw.2.1,?_⟩,by have:=hw.1;have:=hw.2.1;simp only [Lt];omega⟩;rw [← hb0,hb,Ae]
  rintro (h | h)
  ·exact h0 h
  exact hn h
 have hl:¬ i<s.length:=by have:=Ac h;omega
 refine Stp.ret ?_;rw [← hb0,Qgc,dif_neg hl];rfl
theorem Z1y (o:Option Nat):decide (Z3n o<0)=o.isNone:=by
 cases o with
 | none=>rfl
 | some p=>exact Ab (by simp only [Z3n];omega)
theorem Q47 (s:List UInt8):Tot (fun N=>Y1 N s) (Vg s):=by
 refine TotP.tot ?_;show TotP (fun N=>cond (Q3 .leq (s.length:Int) 65535) _ _) _;rw [Xu];refine TotP.cond (fun h=>?_) (fun h=>?_)
 ·have h:s.length≤65535:=by have:=Aa h;omega
  refine TotP.bindE (Qyp s (by omega)) (.ret ?_);rw [Qd,Z1y];simp [Vg,h]
 have h:¬ s.length≤65535:=by have:=Ac h;omega
 exact .ret (by simp [Vg,h])
theorem Qg7 (s:List UInt8) (hs:s.length≤maxLen) (c:Nat):Tot (fun N=>Y7 N s (c:Int)) (s.any fun b=>b.toNat == c):=by
 have hm:=Q9a;refine TotP.tot ?_;refine Q5n (L:=fun N n i=>Vb N s (c:Int) n i) s.length (fun i=>∀ j (h:j<s.length),j<i→(s[j]).toNat≠c) (fun i hi hj=>?_) (fun hj=>?_) (fun j _ hj=>by omega)
 ·show Stp _ _ _ (fun N n=>cond (Q3 .lss (i:Int) (s.length:Int)) _ _);refine Stp.cond (fun _=>?_) (fun h=>by rw [Qd] at h;have:=Ac h;omega);refine Stp.idx (Z2 hi) ?_;rw [Qa];refine Stp.cond (fun h=>?_) (fun h=>?_)
  ·refine Stp.ret (Eq.symm ?_);rw [Nr];exact ⟨s[i],Md _,by have:=Aa h;simp;omega⟩
  rw [w64 _ (by omega)];refine Stp.go _ ⟨by omega,fun j hj2 hji=>?_⟩
  by_cases e:j=i
  ·subst e;have:=Ac h;omega
  exact hj j hj2 (by omega)
 show Stp _ _ _ (fun N n=>cond (Q3 .lss (s.length:Int) (s.length:Int)) _ _);refine Stp.cond (fun h=>by rw [Qd] at h;have:=Aa h;omega) (fun _=>?_);refine Stp.ret (Eq.symm ?_);rw [Cz];intro b hb;obtain ⟨j,hj2,rfl⟩:=Nh hb;have:=hj j hj2 hj2;simpa using this
theorem Qpe (s:List UInt8):Qry s=((s.any fun b=>b.toNat == 43)||(s.any fun b=>b.toNat == 35)):=by
 unfold Qry
 induction s with
 | nil=>rfl
 | cons b s ih=>simp only [List.any_cons,ih];cases b.toNat == 43<;>cases b.toNat == 35<;>cases (s.any fun b=>b.toNat == 43)<;>cases (s.any fun b=>b.toNat == 35)<;>rfl
theorem Qfa (s:List UInt8) (hs:s.length≤maxLen):Tot (fun N=>Qr N s) (Q04 s):=by
 refine TotP.tot ?_;show TotP (fun N=>cond (Q0p .neq s []) _ _) _
 have e:Q0p .neq s []=decide (s ≠ []):=by cases s<;>rfl
 rw [e];unfold Q04;rw [Qpe];refine TotP.cond (fun h=>?_) (fun h => .ret (by rw [h];rfl));rw [h];refine TotP.bindE (Q47 s) ?_;refine TotP.cond (fun h=>?_) (fun h => .ret (by rw [h];rfl));rw [h];refine TotP.bindE (Qg7 s hs 43) ?_;refine TotP.cond (fun h=>?_) (fun h => .ret ?_)
 ·refine TotP.bindE (Qg7 s hs 35) (.ret ?_)
  have h:(s.any fun b=>b.toNat == 43)=false:=by simpa using h
  rw [h];rfl
 have h:(s.any fun b=>b.toNat == 43)=true:=by simpa using h
 rw [h];rfl
end
end Go.Av
namespace Go.Av
noncomputable section
class Kd (k:Int):Prop where
 lo:1≤k
 hi:k≤16
def Qxk (sh least most:Int) (p:Qb):Int:=if sh≤4 then (if p.Text ≠ []∨p.Value ≠ [] then 2 else if p.N'<least∨most<p.N' then 9 else 0) else
 if p.N'≠0∨(sh≠7∧p.Value ≠ []) then 2 else if sh=6 then (if 65535<(p.Text.length:Int) then 2 else 0) else if (Vg p.Text&&Vg p.Value)=false then 6 else if p.ID=8∧Q04 p.Text=false then 9 else 0
def Qoj (m k:Int):Bool:=Q3 .eql (Q6v .i64 (Qcl .i64 m (wrap .u64 k)) 1) 1
section
variable {k:Int} [hk:Kd k]
theorem Qxv (r:Qv) (N:Nat):Gz N r k=some (Qoj r.kinds k):=by
 have h1:=hk.lo;have h2:=hk.hi;unfold Gz;rw [Wx,Xu,Ad h1,Ad h2,Z27 (by omega),Ad (by omega)];unfold Qoj;rw [Z27 (by omega)];rfl
theorem Z26 (r:Qv) (p:Qb) (h1:p.Text.length≤maxLen):Tot (fun N=>Q1q N r k p) (if Qoj r.kinds k=true then Qxk r.shape r.least r.most p else 9):=by
 refine TotP.tot ?_;unfold Q1q Q2h;simp only [Xu,Qq,Qa,Qy,Qd,Q82];refine TotP.bindE (.of (Qxv r)) ?_;refine TotP.cond (fun g => .ret (by rw [Ae (by simpa using g)])) (fun g=>?_);rw [Af (by simpa using g)];refine TotP.cond (fun g1=>?_) (fun g1=>?_)
 ·have g1:=Aa g1;unfold Qxk;rw [Af g1];refine TotP.bind (V:=fun v=>v=_) ?_ (fun v hv => .ret hv)
  repeat' first
   | refine TotP.cond (fun g=>?_) (fun g=>?_)
   | exact TotP.ret (by simp_all)
   | exact TotP.ret (by simp_all;omega)
 have g1:=Ac g1;unfold Qxk;rw [Ae g1]
 repeat' first
  | refine TotP.cond (fun g=>?_) (fun g=>?_)
  | refine TotP.bindE (Q96 _) ?_
  | refine TotP.bindE (Qf8 _ h1) ?_
  | exact TotP.ret (by simp_all)
def Qra (sh least most:Int) (p:Qb):Int:=cond (decide ((sh≤4∧p.Text ≠ [])∨(¬ sh≤4∧p.N'≠0)∨(sh≠7∧p.Value ≠ []))) 2 (cond (decide (sh≤4)&&decide (p.N'<least∨most<p.N')) 9
 (cond (decide (sh=5∨sh=7) && !(Vg p.Text&&Vg p.Value)) 6 (cond (decide (p.ID=8) && !(Q04 p.Text)) 9 (cond (decide (sh=6)&&decide ((p.Text.length:Int)>65535)) 2 0))))
theorem Qud {sh least most:Int} {p:Qb} (h:(sh≤4∧p.ID≠8)∨(sh=5∨sh=7)∨(sh=6∧p.ID≠8)):Qra sh least most p=Qxk sh least most p:=by
 unfold Qra Qxk
 rcases h with ⟨h,h8⟩ | h | ⟨h,h8⟩
 ·have c5:¬ sh=5:=by omega
  have c6:¬ sh=6:=by omega
  have c7:sh≠7:=by omega
  rw [Af h]
  by_cases t:p.Text = []<;>by_cases w:p.Value = []<;>by_cases n:(p.N'<least∨most<p.N')<;>simp [h,c5,c6,c7,h8,t,w,n]
 ·have c4:¬ sh≤4:=by omega
  have c6:¬ sh=6:=by omega
  rw [Ae c4,Ae c6]
  by_cases t:p.N'=0<;>by_cases w:(sh≠7∧p.Value ≠ [])<;>cases v1:Vg p.Text<;>cases v2:Vg p.Value<;>by_cases i:p.ID=8<;>cases v3:Q04 p.Text<;>simp [c4,c6,h,t,w,v1,v2,v3,i]
 subst h
 by_cases t:p.N'=0<;>by_cases w:p.Value = []<;>by_cases l:65535<(p.Text.length:Int)<;>simp [h8,t,w,l]
theorem Qz6 (sh least most:Int) (ks:List Int) (p:Qb) (h1:p.Text.length≤maxLen):Tot (fun N=>cond (Q3 .leq sh 4)
  (cond (Q0p .neq p.Text []) (Qn N p ⟨sh,ks,least,most⟩ true) (cond (Q3 .neq sh 7) (Qn N p ⟨sh,ks,least,most⟩ (Q0p .neq p.Value [])) (Qn N p ⟨sh,ks,least,most⟩ false)))
  (cond (Q3 .neq p.N' 0) (Qn N p ⟨sh,ks,least,most⟩ true) (cond (Q3 .neq sh 7) (Qn N p ⟨sh,ks,least,most⟩ (Q0p .neq p.Value [])) (Qn N p ⟨sh,ks,least,most⟩ false)))) (Qra sh least most p):=by
 refine TotP.tot ?_;have j5:∀ b,TotP (fun N=>Vn N b) (· = cond b 2 0):=fun b=>TotP.cond (fun g => .ret (by rw [g];rfl)) (fun g => .ret (by rw [g];rfl))
 have j4:∀ s,TotP (fun N=>Wh N p ⟨sh,ks,least,most⟩ s) (· = cond s 9 (cond (decide (sh=6)&&decide ((p.Text.length:Int)>65535)) 2 0)):=fun s=>by
  unfold Wh;refine TotP.cond (fun g => .ret (by rw [g];rfl)) (fun g=>?_);rw [g];show TotP (fun N=>cond (Q3 .eql sh 6) _ _) _;rw [Qa,Qy];exact TotP.cond (fun g=>by rw [g];exact j5 _) (fun g=>by rw [g];exact j5 _)
 have j3:∀ s,TotP (fun N=>Xh N p ⟨sh,ks,least,most⟩ s) (· = cond s 6 (cond (decide (p.ID=8) && !(Q04 p.Text)) 9 (cond (decide (sh=6)&&decide ((p.Text.length:Int)>65535)) 2 0))):=fun s=>by
  unfold Xh;refine TotP.cond (fun g => .ret (by rw [g];rfl)) (fun g=>?_);rw [g,Qa];refine TotP.cond (fun g=>?_) (fun g=>by rw [g];exact j4 _);rw [g];exact TotP.bindE (Qfa _ h1) (j4 _)
 have j2:∀ t,TotP (fun N=>Yp N p ⟨sh,ks,least,most⟩ t) (· = cond (t && !(Vg p.Text&&Vg p.Value)) 6 (cond (decide (p.ID=8) && !(Q04 p.Text)) 9 (cond (decide (sh=6)&&decide ((p.Text.length:Int)>65535)) 2 0))):=fun t=>by
  unfold Yp;refine TotP.cond (fun g=>?_) (fun g=>by rw [g];exact j3 _);rw [g];refine TotP.bindE (Q47 _) (TotP.cond (fun g=>by rw [bN g];exact j3 _) (fun g=>?_));rw [bP g];exact TotP.bindE (Q47 _) (j3 _)
 have j1:∀ s,TotP (fun N=>Zo N p ⟨sh,ks,least,most⟩ s) (· = cond s 9 (cond (decide (sh=5∨sh=7) && !(Vg p.Text&&Vg p.Value)) 6 (cond (decide (p.ID=8) && !(Q04 p.Text)) 9 (cond (decide (sh=6)&&decide ((p.Text.length:Int)>65535)) 2 0)))):=fun s=>by
  unfold Zo;refine TotP.cond (fun g => .ret (by rw [g];rfl)) (fun g=>?_);rw [g];show TotP (fun N=>cond (Q3 .eql sh 5) (Yp N p ⟨sh,ks,least,most⟩ true) (Yp N p ⟨sh,ks,least,most⟩ (Q3 .eql sh 7))) _;rw [Qa,Qa]
  have e:decide (sh=5∨sh=7)=(decide (sh=5)||decide (sh=7)):=by simp
  rw [e];exact TotP.cond (fun g=>by rw [g];exact j2 _) (fun g=>by rw [g];exact j2 _)
 have j0:∀ s,TotP (fun N=>Qn N p ⟨sh,ks,least,most⟩ s) (· = cond s 2 (cond (decide (sh≤4)&&decide (p.N'<least∨most<p.N')) 9 (cond (decide (sh=5∨sh=7) && !(Vg p.Text&&Vg p.Value)) 6 (cond (decide (p.ID=8) && !(Q04 p.Text)) 9 (cond (decide (sh=6)&&decide ((p.Text.length:Int)>65535)) 2 0))))):=fun s=>by
  unfold Qn;refine TotP.cond (fun g => .ret (by rw [g];rfl)) (fun g=>?_);rw [g];show TotP (fun N=>cond (Q3 .leq sh 4) (cond (Q3 .lss p.N' least) (Zo N p ⟨sh,ks,least,most⟩ true) (Zo N p ⟨sh,ks,least,most⟩ (Q3 .gtr p.N' most))) (Zo N p ⟨sh,ks,least,most⟩ false)) _;rw [Xu,Qd,Qy]
  have e:decide (p.N'<least∨most<p.N')=(decide (p.N'<least)||decide (most<p.N')):=by simp
  rw [e];exact TotP.cond (fun g=>by rw [g];exact TotP.cond (fun g=>by rw [g];exact j1 _) (fun g=>by rw [g];exact j1 _)) (fun g=>by rw [g];exact j1 _)
 rw [Xu,Q82,Qq,Qq,Q82]
 have e:decide ((sh≤4∧p.Text ≠ [])∨(¬ sh≤4∧p.N'≠0)∨(sh≠7∧p.Value ≠ []))=((decide (sh≤4)&&decide (p.Text ≠ []))||((!(decide (sh≤4))&&decide (p.N'≠0))||(decide (sh≠7)&&decide (p.Value ≠ [])))):=by simp only [Ct,Bj,decide_not,ne_eq]
 unfold Qra;generalize (cond (decide (sh≤4)&&decide (p.N'<least∨most<p.N')) (9:Int) _)=R at j0 ⊢;rw [e];refine TotP.cond (fun g=>?_) (fun g=>?_)
 ·rw [g];exact TotP.cond (fun g=>by rw [g];exact j0 _) (fun g=>by rw [g];exact TotP.cond (fun g=>by rw [g];exact j0 (decide (p.Value ≠ []))) (fun g=>by rw [g];exact j0 false))
 rw [g];exact TotP.cond (fun g=>by rw [g];exact j0 _) (fun g=>by rw [g];exact TotP.cond (fun g=>by rw [g];exact j0 (decide (p.Value ≠ []))) (fun g=>by rw [g];exact j0 false))
end
end
end Go.Av
namespace Go.Av
noncomputable section
def Z2c (id:Int) (w:Q9):Bool:=match Q55 F_prop_rules_tab id with
 | none=>w.kinds.isEmpty&&decide (w.shape=0)
 | some r=>(([1,2,3,4,5,6,7,8,9,10,11,12,13,14,15,16]:List Int).all fun k=>w.kinds.contains k == Qoj r.kinds k)&&(decide (w.shape=r.shape∧w.least=r.least∧w.most=r.most)&&decide ((w.shape≤4∧id≠8)∨(w.shape=5∨w.shape=7)∨(w.shape=6∧id≠8)))
set_option maxRecDepth 20000 in
theorem Qv8 (id:Int):∃ w:Q9,(∀ N,W4 N id=some w)∧Z2c id w=true∧w.kinds.length≤30:=by
 by_cases h1:id=1
 ·subst h1;exact ⟨_,fun _=>rfl,by decide +kernel,by decide⟩
 by_cases h2:id=2
 ·subst h2;exact ⟨_,fun _=>rfl,by decide +kernel,by decide⟩
 by_cases h3:id=3
 ·subst h3;exact ⟨_,fun _=>rfl,by decide +kernel,by decide⟩
 by_cases h8:id=8
 ·subst h8;exact ⟨_,fun _=>rfl,by decide +kernel,by decide⟩
 by_cases h9:id=9
 ·subst h9;exact ⟨_,fun _=>rfl,by decide +kernel,by decide⟩
 by_cases h11:id=11
 ·subst h11;exact ⟨_,fun _=>rfl,by decide +kernel,by decide⟩
 by_cases h17:id=17
 ·subst h17;exact ⟨_,fun _=>rfl,by decide +kernel,by decide⟩
 by_cases h18:id=18
 ·subst h18;exact ⟨_,fun _=>rfl,by decide +kernel,by decide⟩
 by_cases h26:id=26
 ·subst h26;exact ⟨_,fun _=>rfl,by decide +kernel,by decide⟩
 by_cases h19:id=19
 ·subst h19;exact ⟨_,fun _=>rfl,by decide +kernel,by decide⟩
 by_cases h21:id=21
 ·subst h21;exact ⟨_,fun _=>rfl,by decide +kernel,by decide⟩
 by_cases h22:id=22
 ·subst h22;exact ⟨_,fun _=>rfl,by decide +kernel,by decide⟩
 by_cases h23:id=23
 ·subst h23;exact ⟨_,fun _=>rfl,by decide +kernel,by decide⟩
 by_cases h25:id=25
 ·subst h25;exact ⟨_,fun _=>rfl,by decide +kernel,by decide⟩
 by_cases h24:id=24
 ·subst h24;exact ⟨_,fun _=>rfl,by decide +kernel,by decide⟩
 by_cases h28:id=28
 ·subst h28;exact ⟨_,fun _=>rfl,by decide +kernel,by decide⟩
 by_cases h31:id=31
 ·subst h31;exact ⟨_,fun _=>rfl,by decide +kernel,by decide⟩
 by_cases h33:id=33
 ·subst h33;exact ⟨_,fun _=>rfl,by decide +kernel,by decide⟩
 by_cases h34:id=34
 ·subst h34;exact ⟨_,fun _=>rfl,by decide +kernel,by decide⟩
 by_cases h35:id=35
 ·subst h35;exact ⟨_,fun _=>rfl,by decide +kernel,by decide⟩
 by_cases h36:id=36
 ·subst h36;exact ⟨_,fun _=>rfl,by decide +kernel,by decide⟩
 by_cases h37:id=37
 ·subst h37;exact ⟨_,fun _=>rfl,by decide +kernel,by decide⟩
 by_cases h40:id=40
 ·subst h40;exact ⟨_,fun _=>rfl,by decide +kernel,by decide⟩
 by_cases h41:id=41
 ·subst h41;exact ⟨_,fun _=>rfl,by decide +kernel,by decide⟩
 by_cases h42:id=42
 ·subst h42;exact ⟨_,fun _=>rfl,by decide +kernel,by decide⟩
 by_cases h38:id=38
 ·subst h38;exact ⟨_,fun _=>rfl,by decide +kernel,by decide⟩
 by_cases h39:id=39
 ·subst h39;exact ⟨_,fun _=>rfl,by decide +kernel,by decide⟩
 refine ⟨⟨0,[],0,0⟩,fun N=>?_,?_,by decide⟩
 ·unfold W4;simp only [Qa,Ab h1,Ab h2,Ab h3,Ab h8,Ab h9,Ab h11,Ab h17,Ab h18,Ab h26,Ab h19,Ab h21,Ab h22,Ab h23,Ab h25,Ab h24,Ab h28,Ab h31,Ab h33,Ab h34,Ab h35,Ab h36,Ab h37,Ab h40,Ab h41,Ab h42,Ab h38,Ab h39,Ah]
 have:Q55 F_prop_rules_tab id=none:=by
  cases hl:Q55 F_prop_rules_tab id with
  | none=>rfl
  | some r=>
   exfalso
   have hall:(F_prop_rules_tab.all fun q=>([1,2,3,8,9,11,17,18,26,19,21,22,23,25,24,28,31,33,34,35,36,37,40,41,42,38,39]:List Int).contains q.1)=true:=by decide +kernel
   have:=Mf.1 hall _ (Qes hl);simp at this;omega
 unfold Z2c;rw [this];rfl
def Qdl (k:Int) (p:Qb):Int:=match Q55 F_prop_rules_tab p.ID with
 | none=>9
 | some r=>if Qoj r.kinds k=true then Qxk r.shape r.least r.most p else 9
def Qu5 (k id:Int):Bool:=decide (id=38)||(decide (id=11)&&decide (k=3))
def Qfn (l:List Qb) (id:Int):Bool:=l.any fun p=>decide (p.ID=id)
def Q6x (k:Int):List Qb→List Qb→Int
 | pre,[]=>if (Qfn pre 22 && !(Qfn pre 21))=true then 9 else 0
 | pre,p::r=>if Qdl k p≠0 then Qdl k p else if (Qfn pre p.ID && !(Qu5 k p.ID))=true then 9 else Q6x k (pre ++ [p]) r
def Qpx (sh:Int) (p:Qb):List UInt8:=if sh=1 then Qb4 p.N'.toNat 1 else if sh=2 then Qb4 p.N'.toNat 2 else if sh=3 then Qb4 p.N'.toNat 4 else if sh=4 then vb p.N'.toNat else Qgx p.Text++(if sh=7 then Qgx p.Value else [])
def Z0a (id:Int):Int:=match Q55 F_prop_rules_tab id with
 | none=>0
 | some r=>r.shape
def Qux (p:Qb):List UInt8:=UInt8.ofNat (wrap .u8 p.ID).toNat::Qpx (Z0a p.ID) p
def Qjk (l:List Qb):List UInt8:=l.flatMap Qux
structure FitV (sh:Int) (p:Qb):Prop where
 num:sh≤4→0≤p.N'∧p.N'≤4294967295
 var:sh=4→p.N'≤268435455
 txt:p.Text.length≤65535
 val:p.Value.length≤65535
theorem Z8j {s:List UInt8} (h:Vg s=true):s.length≤65535:=by
 unfold Vg at h;simp only [La,Ag] at h;exact h.1
theorem Z4x {k:Int} {p:Qb} (h:Qdl k p=0):∃ r,Q55 F_prop_rules_tab p.ID=some r∧Z0a p.ID=r.shape∧FitV r.shape p:=by
 unfold Qdl at h;unfold Z0a
 cases hr:Q55 F_prop_rules_tab p.ID with
 | none=>rw [hr] at h;exact absurd (show (9:Int)=0 from h) (by decide)
 | some r=>
  rw [hr] at h;dsimp only at h ⊢;refine ⟨r,rfl,rfl,?_⟩;split at h
  ·have hall:(F_prop_rules_tab.all fun q=>decide (0≤q.2.least∧q.2.most≤4294967295∧(q.2.shape=4→q.2.most≤268435455)))=true:=by decide +kernel
   have ha:=Aa (Mf.1 hall _ (Qes hr));dsimp only at ha;unfold Qxk at h
   by_cases h4:r.shape≤4
   ·rw [Af h4] at h
    by_cases ht:p.Text ≠ []∨p.Value ≠ []
    ·rw [Af ht] at h;omega
    rw [Ae ht] at h;have h1:p.Text = []:=Decidable.byContradiction fun x=>ht (.inl x);have h2:p.Value = []:=Decidable.byContradiction fun x=>ht (.inr x)
    by_cases hn:p.N'<r.least∨r.most<p.N'
    ·rw [Af hn] at h;omega
    exact ⟨fun _=>by omega,fun x=>by have:=ha.2.2 x;omega,by rw [h1];exact Lm _,by rw [h2];exact Lm _⟩
   rw [Ae h4] at h
   by_cases ht:p.N'≠0∨(r.shape≠7∧p.Value ≠ [])
   ·rw [Af ht] at h;omega
   rw [Ae ht] at h
   by_cases h6:r.shape=6
   ·rw [Af h6] at h;have h2:p.Value = []:=Decidable.byContradiction fun x=>ht (.inr ⟨by omega,x⟩)
    by_cases hl:65535<(p.Text.length:Int)
    ·rw [Af hl] at h;omega
    exact ⟨fun x=>absurd x h4,fun x=>by omega,by omega,by rw [h2];exact Lm _⟩
   rw [Ae h6] at h
   cases hv:(Vg p.Text&&Vg p.Value) with
   | false=>rw [hv,Af rfl] at h;omega
   | true=>
    rw [La] at hv;exact ⟨fun x=>absurd x h4,fun x=>by omega,Z8j hv.1,Z8j hv.2⟩
  omega
theorem Yu (s:List UInt8):(Qgx s).length=s.length+2:=by unfold Qgx;rw [Le,Yv];omega
theorem Qhn {sh:Int} {p:Qb} (h:FitV sh p):(Qpx sh p).length≤140000:=by
 have h1:=h.txt;have h2:=h.val;unfold Qpx
 repeat' split
 ·rw [Yv];omega
 ·rw [Yv];omega
 ·rw [Yv];omega
 ·rename_i h4;have:=h.var h4;have:=h.num (by omega);have:=Qpv (n:=p.N'.toNat) (by omega);omega
 ·rw [Le,Yu,Yu];omega
 rw [Le,Yu,Ly];omega
theorem Quz {sh:Int} {p:Qb} (h:FitV sh p):Tot (fun N=>Q0x N sh p) (Qpx sh p):=by
 refine TotP.tot ?_;have h1:=h.txt;have h2:=h.val;unfold Q0x Qpx;simp only [Qa,Qq];refine TotP.cond (fun g=>?_) (fun g=>?_)
 ·have g:=Aa g;have:=h.num (by omega);subst g;rw [Af rfl];exact TotP.bindE (Q12 p.N' (by omega) 1 (by omega)) (.ret rfl)
 rw [Ae (Ac g)];refine TotP.cond (fun g=>?_) (fun g=>?_)
 ·have g:=Aa g;have:=h.num (by omega);subst g;rw [Af rfl];exact TotP.bindE (Q12 p.N' (by omega) 2 (by omega)) (.ret rfl)
 rw [Ae (Ac g)];refine TotP.cond (fun g=>?_) (fun g=>?_)
 ·have g:=Aa g;have:=h.num (by omega);rw [Af g];exact TotP.bindE (Q12 p.N' (by omega) 4 (by omega)) (.ret rfl)
 rw [Ae (Ac g)];refine TotP.cond (fun g=>?_) (fun g=>?_)
 ·have g:=Aa g;have:=h.num (by omega);have:=h.var g;rw [Af g];have hv:=Qmd p.N'.toNat (by omega);rw [show ((p.N'.toNat:Nat):Int)=wrap .i64 p.N' by rw [w64 _ (by omega)];omega] at hv;exact TotP.bindE hv (.ret rfl)
 rw [Ae (Ac g)];refine TotP.bindE (Qld _ h1) ?_;refine TotP.cond (fun g=>?_) (fun g=>?_)
 ·rw [Ae (Aa g),Lu];exact .ret rfl
 rw [Af (Decidable.byContradiction fun x=>Ac g x)];refine TotP.bindE (Qld _ h2) ?_;exact TotP.chk (by rw [Ln];simp only [Yu];omega) (.ret rfl)
theorem Qyo {id:Int} {w:Q9} (h:Z2c id w=true):w.shape=Z0a id:=by
 unfold Z2c at h;unfold Z0a
 cases hr:Q55 F_prop_rules_tab id with
 | none=>rw [hr] at h;simp only [La,Ag] at h;exact h.2
 | some r=>rw [hr] at h;simp only [La,Ag] at h;exact h.2.1.1
theorem Qpd {p:Qb} (h:FitV (Z0a p.ID) p):Tot (fun N=>Jg N p) (Qpx (Z0a p.ID) p):=by
 obtain ⟨w,hw,ho,_⟩:=Qv8 p.ID;refine TotP.tot ?_;have h1:=h.txt;have h2:=h.val;unfold Jg Qpx;rw [← Qyo ho] at h ⊢;simp only [Qa];refine TotP.bindE (.of hw) ?_;refine TotP.cond (fun g=>?_) (fun g=>?_)
 ·have g:=Aa g;have:=h.num (by omega);rw [Af g];exact TotP.bindE (Q30 p.N' (by omega) 1 (by omega)) (.ret rfl)
 rw [Ae (Ac g)];refine TotP.cond (fun g=>?_) (fun g=>?_)
 ·have g:=Aa g;have:=h.num (by omega);rw [Af g];exact TotP.bindE (Q30 p.N' (by omega) 2 (by omega)) (.ret rfl)
 rw [Ae (Ac g)];refine TotP.cond (fun g=>?_) (fun g=>?_)
 ·have g:=Aa g;have:=h.num (by omega);rw [Af g];exact TotP.bindE (Q30 p.N' (by omega) 4 (by omega)) (.ret rfl)
 rw [Ae (Ac g)];refine TotP.cond (fun g=>?_) (fun g=>?_)
 ·have g:=Aa g;have:=h.num (by omega);have:=h.var g;rw [Af g];have hv:=Qmq p.N'.toNat (by omega);rw [show ((p.N'.toNat:Nat):Int)=wrap .i64 p.N' by rw [w64 _ (by omega)];omega] at hv;exact TotP.bindE hv (.ret rfl)
 rw [Ae (Ac g)];refine TotP.bindE (Qmi _ h1) ?_;refine TotP.bindE (.of hw) ?_;refine TotP.cond (fun g=>?_) (fun g=>?_)
 ·rw [Af (Aa g)];refine TotP.bindE (Qmi _ h2) ?_;exact TotP.chk (by rw [Ln];simp only [Yu];omega) (.ret rfl)
 rw [Ae (Ac g),Lu];exact .ret rfl
section
variable {k:Int} [hk:Kd k]
theorem Zv0 (w:Q9) (hw:w.kinds.length≤30):Tot (fun N=>X7 N k w N 0) (w.kinds.contains k):=by
 refine TotP.tot ?_;refine Q5n (L:=fun N n i=>X7 N k w n i) w.kinds.length (fun i=>∀ j (h:j<w.kinds.length),j<i→w.kinds[j]≠k) (fun i hi hj=>?_) (fun hj=>?_) (fun j _ hj=>by omega)
 ·show Stp _ _ _ (fun N n=>cond (Q3 .lss (i:Int) ((Q6 (cI .i64) w.kinds).length:Int)) _ _);rw [Q4,Qd];refine Stp.cond (fun _=>?_) (fun h=>by have:=Ac h;omega);refine Stp.idx (Z2 hi) ?_;rw [Qa];refine Stp.cond (fun h=>Stp.ret ?_) (fun h=>?_)
  ·exact (Mu.2 (by rw [← Aa h];exact Md hi)).symm
  rw [w64 _ (by omega)];refine Stp.go (L:=fun N n i=>X7 N k w n i) _ ⟨by omega,fun j hj' hji=>?_⟩
  by_cases e:j=i
  ·subst e;exact Ac h
  exact hj j hj' (by omega)
 show Stp _ _ _ (fun N n=>cond (Q3 .lss (w.kinds.length:Int) ((Q6 (cI .i64) w.kinds).length:Int)) _ _);rw [Q4,Qd];refine Stp.cond (fun h=>by have:=Aa h;omega) (fun _=>Stp.ret ?_)
 cases hc:w.kinds.contains k with
 | false=>rfl
 | true=>
  obtain ⟨j,hj',e⟩:=Nh (Mu.1 hc);exact absurd e (hj j hj' hj')
theorem Z7p:k∈([1,2,3,4,5,6,7,8,9,10,11,12,13,14,15,16]:List Int):=by
 have h1:=hk.lo;have h2:=hk.hi;simp only [Ml,Be,or_false];omega
def Z1s (k id:Int):Bool:=match Q55 F_prop_rules_tab id with
 | none=>false
 | some r=>Qoj r.kinds k
theorem Qzh {id:Int} {w:Q9} (h:Z2c id w=true):w.kinds.contains k=Z1s k id:=by
 unfold Z2c at h;unfold Z1s
 cases hr:Q55 F_prop_rules_tab id with
 | none=>
  rw [hr] at h;simp only [La,List.isEmpty_iff] at h;rw [h.1];rfl
 | some r=>
  rw [hr] at h;simp only [La,Mf] at h;exact eq_of_beq (h.1 k Z7p)
theorem Z0w (id:Int):Tot (fun N=>J6 N k id) (Z1s k id):=by
 obtain ⟨w,hw,ho,hl⟩:=Qv8 id;have:=Zv0 (k:=k) w hl;rw [Qzh ho] at this;refine TotP.tot ?_;unfold J6;refine TotP.bindE (.of hw) ?_;obtain ⟨N,h⟩:=this;exact ⟨_,rfl,N,h⟩
theorem Qyn (p:Qb) (h1:p.Text.length≤maxLen):Tot (fun N=>Js N k p) (Qdl k p):=by
 obtain ⟨w,hw,ho,hl⟩:=Qv8 p.ID;refine TotP.tot ?_;unfold Js;refine TotP.bindE (Z0w p.ID) ?_;unfold Z1s Qdl;unfold Z2c at ho
 cases hr:Q55 F_prop_rules_tab p.ID with
 | none=>exact TotP.cond (fun _ => .ret rfl) (fun g=>nomatch g)
 | some r=>
  rw [hr] at ho;dsimp only at ho ⊢;simp only [La,Ag] at ho;obtain ⟨_,⟨s1,s2,s3⟩,ho⟩:=ho;refine TotP.cond (fun g => .ret (by rw [Ae (by rw [bN g];decide)])) (fun g=>?_);rw [Af (bP g)];refine TotP.bindE (.of hw) ?_;have h:=Qz6 w.shape w.least w.most w.kinds p h1
  have e:Qxk w.shape w.least w.most p=Qxk r.shape r.least r.most p:=by rw [s1,s2,s3]
  rw [Qud ho,e] at h;obtain ⟨N,h⟩:=h;exact ⟨_,rfl,N,h⟩
end
end
end Go.Av
namespace Go.Av
noncomputable section
def Qs8 (l:List Qb) (q:Int):Nat:=l.countP (fun p=>decide (p.ID=q))
theorem Qdz (l:List Qb) (q:Int):Qfn l q=decide (0<Qs8 l q):=by
 unfold Qfn Qs8;rw [Ce,Ag,List.countP_pos_iff,Nr]
theorem Qia {l:List Qb} {i:Nat} (hi:i<l.length):l.take (i+1)=l.take i ++ [l[i]]:=by
 rw [Bs,Ld hi];rfl
theorem Qwb {l:List Qb} {i:Nat} (hi:i<l.length) (q:Int):Qs8 (l.take (i+1)) q=Qs8 (l.take i) q+(if l[i].ID=q then 1 else 0):=by
 unfold Qs8;rw [Qia hi,List.countP_append]
 congr 1
 by_cases h:l[i].ID=q<;>simp [h]
theorem Z2h {l:List Qb} (hl:l.length≤30) (i:Nat) (q:Int):Qs8 (l.take i) q≤30:=by
 unfold Qs8;exact Nd List.countP_le_length (by rw [Mk];omega)
theorem Z0r (k:Int) {l:List Qb} {i:Nat} (hi:i<l.length):Q6x k (l.take i) (l.drop i)=if Qdl k l[i]≠0 then Qdl k l[i] else if (Qfn (l.take i) l[i].ID && !(Qu5 k l[i].ID))=true then 9 else Q6x k (l.take (i+1)) (l.drop (i+1)):=by
 rw [Mp hi,Qia hi];rfl
theorem Que (k:Int) (l:List Qb):Q6x k (l.take l.length) (l.drop l.length)=if (Qfn l 22 && !(Qfn l 21))=true then 9 else 0:=by
 rw [Nj,List.drop_length];rfl
theorem Qol {l:List Qb} {i:Nat} (hi:i<l.length):Qjk (l.take (i+1))=Qjk (l.take i)++Qux l[i]:=by
 unfold Qjk;rw [Qia hi,List.flatMap_append];simp
def Qhg (k:Int) (l:List Qb):List UInt8×Int:=if Q6x k [] l=0 then (vb (Qjk l).length++Qjk l,0) else ([],Q6x k [] l)
def Z76 (k:Int) (l:List Qb) (N n:Nat) (p:Int×List Int×List Int):Option (List UInt8×Int):=Zz N k l n p.1 p.2.1 p.2.2
def Z8a (k:Int) (l:List Qb) (p:Int×List Int×List Int):Prop:=∃ i:Nat,p.1=(i:Int)∧i≤l.length∧(∃ hb:p.2.1.length=64,∀ (q:Nat) (hq:q<64),p.2.1[q]=((Qs8 (l.take i) (q:Int):Nat):Int))∧(p.2.2.map fun n=>UInt8.ofNat n.toNat)=Qjk (l.take i)∧p.2.2.length≤i * 140001∧Q6x k (l.take i) (l.drop i)=Q6x k [] l
section
variable {k:Int} [hk:Kd k]
set_option maxRecDepth 20000 in
theorem Qv6 (l:List Qb) (hl:l.length≤30) (hp:∀ p∈l,p.Text.length≤maxLen):TotP (fun N=>Zz N k l N 0 (List.replicate 64 0) []) (· = Qhg k l):=by
 have hf:∀ {e:Int},e≠0→e=Q6x k [] l→(([]:List UInt8),e)=Qhg k l:=fun h1 h2=>by unfold Qhg;rw [← h2,Ae h1]
 refine Qas (L:=Z76 k l) (Q:=fun r=>r=Qhg k l) (Z8a k l) (fun p=>l.length - p.1.toNat) ?_ (0,List.replicate 64 0,[]) ⟨0,rfl,by omega,⟨Bu,fun q hq=>by rw [List.getElem_replicate];simp [Qs8]⟩,rfl,by simp,rfl⟩
 rintro ⟨s,b,o⟩ ⟨i,hs,hi,⟨hb,hc⟩,hm,ho,hJ⟩
 simp only at hs hb hc ho hm
 subst hs;show Stp _ _ _ (fun N n'=>cond (Q3 .lss (i:Int) ((Q6 Qb.cells l).length:Int)) _ _);rw [Q4,Qd];refine Stp.cond (fun h=>?_) (fun h=>?_)
 ·have hi:i<l.length:=by have h:=Aa h;omega
  refine Stp.idx (Z2 hi) ?_;have hT:=hp _ (Md hi);have hcs:=fun q=>Qwb (l:=l) hi q;have hla:=Z0r k hi;have hbn:=Qol hi;rw [hJ] at hla;generalize l[i]=y at hT hcs hla hbn
  have e1:wrap .i64 ((i:Int)+1)=((i+1:Nat):Int):=by rw [w64 _ (by omega)];omega
  have go:∀ (b' o':List Int),(∃ hb:b'.length=64,∀ (q:Nat) (hq:q<64),b'[q]=((Qs8 (l.take (i+1)) (q:Int):Nat):Int))→(o'.map fun n=>UInt8.ofNat n.toNat)=Qjk (l.take (i+1))→o'.length≤(i+1) * 140001→Q6x k (l.take (i+1)) (l.drop (i+1))=Q6x k [] l →
    Stp (Z76 k l) (fun s'=>Z8a k l s'∧l.length - s'.1.toNat<l.length - (i:Int).toNat) (fun r=>r=Qhg k l) (fun N n=>Zz N k l n (wrap .i64 ((i:Int)+1)) b' o'):=by
   intro b' o' g1 g2 g3 g4;rw [e1];exact Stp.go (L:=Z76 k l) ((i+1:Nat),b',o') ⟨⟨i+1,rfl,by omega,g1,g2,g3,g4⟩,by simp only [Lt];omega⟩
  show Stp _ _ _ (fun N n=>optC (Q55 F_prop_rules_tab y.ID) _ _)
  cases hr:Q55 F_prop_rules_tab y.ID with
  | none=>
   have he:Qdl k y=9:=by unfold Qdl;rw [hr]
   refine Stp.optN ?_;refine Stp.bind (V:=(· = 9)) ⟨9,rfl,Qx8 k y⟩ (fun v hv=>?_);subst hv;exact Stp.cond (fun _=>Stp.ret (hf (by decide) (by rw [hla,he];rfl))) (fun h=>nomatch h)
  | some r=>
   have hid:=Qz4 hr;obtain ⟨q,hk'⟩:∃ q:Nat,y.ID=(q:Int):=⟨y.ID.toNat,by omega⟩
   have hk64:q<64:=by omega
   refine Stp.optS ?_
   have hce:(if Qoj r.kinds k=true then Qxk r.shape r.least r.most y else 9)=Qdl k y:=by unfold Qdl;rw [hr]
   refine Stp.bind (V:=(· = Qdl k y)) ⟨_,hce,Z26 r y hT⟩ (fun v hv=>?_);subst hv;rw [Qq];refine Stp.cond (fun g=>Stp.ret ?_) (fun g=>?_)
   ·have g:=Aa g;exact hf g (by rw [hla,Af g])
   have hok:Qdl k y=0:=Decidable.byContradiction fun x=>Ac g x;rw [Ae (fun x=>x hok)] at hla;obtain ⟨r',hr',hsh,hfit⟩:=Z4x hok;rw [hr] at hr';cases hr';refine Stp.chk (by rw [hk'];simp only [La,Ag];omega) ?_;rw [hk'];refine Stp.idx (Z2 (show q<b.length by omega)) ?_;refine Stp.idx (Z2 (show q<b.length by omega)) ?_;refine Stp.idx (Z2 (show q<(b.set _ _).length by rw [Bi];omega)) ?_;have hbq:=hc q hk64;have hle:=Z2h hl i (q:Int);have ew:wrap .i64 (b[q]+1)=b[q]+1:=w64 _ (by omega)
   have hb':∃ hb:(b.set (Int.toNat (q:Int)) (wrap .i64 (b[q]+1))).length=64,∀ (q':Nat) (hq:q'<64),(b.set (Int.toNat (q:Int)) (wrap .i64 (b[q]+1)))[q']=((Qs8 (l.take (i+1)) (q':Int):Nat):Int):=by
    refine ⟨by rw [Bi];exact hb,fun q' hq'=>?_⟩;rw [hcs,hk'];simp only [Lt,ew]
    by_cases e:q'=q
    ·subst e;rw [List.getElem_set_self,Af rfl,hbq];omega
    rw [List.getElem_set_ne (fun x=>e x.symm),Ae (fun x=>e (by omega)),hc q' hq'];omega
   have hps:Qux y=UInt8.ofNat (wrap .u8 (q:Int)).toNat::Qpx r.shape y:=by unfold Qux;rw [hsh,hk']
   have hvl:=Qhn hfit
   have tail:(Qfn (l.take i) y.ID && !(Qu5 k y.ID))=false→Stp (Z76 k l) (fun s'=>Z8a k l s'∧l.length - s'.1.toNat<l.length - (i:Int).toNat) (fun r=>r=Qhg k l)
     (fun N n=>cond (Nat.ble ((o.length+1+4096) * 1) 17592186044416) ((Q0x N r.shape y).bind fun v130=>
      cond (Nat.beq v130.length 0)
      (Zz N k l n (wrap .i64 ((i:Int)+1)) (b.set (Int.toNat (q:Int)) (wrap .i64 (b[q]+1))) (o ++ [(wrap .u8 (q:Int))]))
      (cond (Nat.ble (((o.length+1)+v130.length+4096) * 1) 17592186044416) (Zz N k l n (wrap .i64 ((i:Int)+1)) (b.set (Int.toNat (q:Int)) (wrap .i64 (b[q]+1))) ((o ++ [(wrap .u8 (q:Int))])++(v130.map fun b=>(b.toNat:Int)))) none)) none):=fun h2=>by
    rw [Ae (by rw [h2];decide)] at hla;refine Stp.chk (by rw [Ln];omega) ?_;refine Stp.bind (V:=(· = Qpx r.shape y)) ⟨_,rfl,Quz hfit⟩ (fun v hv=>?_);subst hv
    have hmm:((Qpx r.shape y).map fun b=>(b.toNat:Int)).map (fun n=>UInt8.ofNat n.toNat)=Qpx r.shape y:=by
     rw [List.map_map];exact (Cp fun x _=>by simp).trans (List.map_id _)
    refine Stp.cond (fun g=>?_) (fun _=>?_)
    ·refine go _ _ hb' ?_ ?_ hla.symm
     ·have:Qpx r.shape y = []:=Mi.1 (No g);rw [Na,hm,hbn,hps,this];rfl
     rw [Le,Lw];omega
    refine Stp.chk (by rw [Ln];omega) ?_;refine go _ _ hb' ?_ ?_ hla.symm
    ·rw [Na,Na,hmm,hm,hbn,hps,Lq];rfl
    rw [Le,Le,Lw,Mm];omega
   have e3:(b.set (Int.toNat (q:Int)) (wrap .i64 (b[q]+1)))[q]'(by rw [Bi];omega)=b[q]+1:=by
    simp only [Lt];rw [List.getElem_set_self,ew]
   rw [e3,Qy]
   have hhas:Qfn (l.take i) y.ID=decide (b[q]+1>1):=by
    rw [Qdz,hk',hbq]
    by_cases e:0<Qs8 (l.take i) (q:Int)
    ·rw [Ad e,Ad (by omega)]
    rw [Ab e,Ab (by omega)]
   refine Stp.cond (fun g=>?_) (fun g=>tail (by rw [hhas,g];rfl));refine Stp.bind (V:=fun v=>v=Qu5 k y.ID) ⟨_,rfl,.of fun N=>?_⟩ (fun v hv=>?_)
   ·show cond (Q3 .eql (q:Int) 38) (some true) (cond (Q3 .eql (q:Int) 11) (some (Q3 .eql k 3)) (some false))=some (Qu5 k y.ID);rw [Qa,Qa,Qa,hk'];unfold Qu5;cases decide ((q:Int)=38)<;>cases decide ((q:Int)=11)<;>rfl
   subst hv;refine Stp.cond (fun g2=>Stp.ret (hf (by decide) ?_)) (fun g2=>tail (by rw [bP g2,hhas];simp));rw [hla,Af (by rw [hhas,g,bN g2];rfl)]
 have e:i=l.length:=by have:=Ac h;omega
 subst e;refine Stp.fin ?_;rw [Que] at hJ;rw [Nj] at hm
 have c22:b[22]=((Qs8 l 22:Nat):Int):=by rw [hc 22 (by omega),Nj];rfl
 have c21:b[21]=((Qs8 l 21:Nat):Int):=by rw [hc 21 (by omega),Nj];rfl
 have vbt:(Qfn l 22 && !(Qfn l 21))=false→TotP (fun N=>(Je N (o.length:Int)).bind fun v169=>cond (Q3 .neq v169.2 0) (some (([]:List UInt8),(4:Int))) (cond (Nat.ble (v169.1.length+(o.map fun n=>UInt8.ofNat n.toNat).length) 4611686018427387904) (some ((v169.1++(o.map fun n=>UInt8.ofNat n.toNat)),(0:Int))) none)) (fun r=>r=Qhg k l):=fun hx=>by
  rw [Ae (by rw [hx];decide)] at hJ
  have hol:o.length=(Qjk l).length:=by rw [← hm,Mm]
  have:=Qpv (n:=o.length) (by omega);refine TotP.bindE (Qmd o.length (by omega)) ?_;refine TotP.cond (fun g=>nomatch g) (fun _=>?_);refine TotP.chk (by rw [Ln,Mm];dsimp only;omega) (.ret ?_);unfold Qhg;rw [Af hJ.symm,hm,hol]
 refine TotP.idx (Z2 (show 22<b.length by omega)) ?_;rw [c22,Qy];refine TotP.cond (fun g=>?_) (fun g=>vbt ?_)
 ·have g:=Aa g;refine TotP.idx (Z2 (show 21<b.length by omega)) ?_;rw [c21,Qa];refine TotP.cond (fun g2 => .ret ?_) (fun g2=>vbt ?_)
  ·have g2:=Aa g2
   have hx:(Qfn l 22 && !(Qfn l 21))=true:=by rw [Qdz,Qdz,Ad (by omega),Ab (by omega)];rfl
   rw [Af hx] at hJ;exact hf (by decide) hJ
  have g2:=Ac g2;rw [Qdz l 21,Ad (by omega)];simp
 have g:=Ac g;rw [Qdz l 22,Ab (by omega)];rfl
theorem Q9d (l:List Qb) (hl:l.length≤30) (hp:∀ p∈l,p.Text.length≤maxLen):Tot (fun N=>Va N k l) (Qhg k l):=by
 refine TotP.tot ?_;unfold Va;rw [Q4,Qy];exact TotP.cond (fun g=>absurd (Aa g) (by omega)) (fun _=>Qv6 l hl hp)
theorem Z15 (l:List Qb):(Qhg k l).2=Q6x k [] l:=by
 unfold Qhg;split
 ·rename_i h;exact h.symm
 rfl
theorem Qid (l:List Qb) (hl:l.length≤30) (hp:∀ p∈l,p.Text.length≤maxLen):Tot (fun N=>X8 N k l) (Q6x k [] l):=by
 refine TotP.tot ?_;unfold X8;exact TotP.bindE (Q9d l hl hp) (.ret (Z15 l))
end
end
end Go.Av
namespace Go.Av
noncomputable section
theorem Qrx (l:List Qb) (hl:l.length≤30) (id:Int):TotP (fun N=>Wn N l id) (fun v=>v.2=Qfn l id):=by
 unfold Wn;refine Q5n (L:=fun N n i=>W8 N l id n i) l.length (fun i=>∀ j (h:j<l.length),j<i→l[j].ID≠id) (fun i hi hj=>?_) (fun hj=>?_) (fun j _ hj=>by omega)
 ·show Stp _ _ _ (fun N n=>cond (Q3 .lss (i:Int) ((Q6 Qb.cells l).length:Int)) _ _);rw [Q4,Qd];refine Stp.cond (fun _=>?_) (fun h=>by have:=Ac h;omega);refine Stp.idx (Z2 hi) ?_;rw [Qa];refine Stp.cond (fun h=>?_) (fun h=>?_)
  ·refine Stp.idx (Z2 hi) (Stp.ret ?_);exact (Nr.2 ⟨_,Md hi,h⟩).symm
  rw [w64 _ (by omega)];refine Stp.go (L:=fun N n i=>W8 N l id n i) _ ⟨by omega,fun j hj' hji=>?_⟩
  by_cases e:j=i
  ·subst e;exact Ac h
  exact hj j hj' (by omega)
 show Stp _ _ _ (fun N n=>cond (Q3 .lss (l.length:Int) ((Q6 Qb.cells l).length:Int)) _ _);rw [Q4,Qd];refine Stp.cond (fun h=>by have:=Aa h;omega) (fun _=>Stp.ret ?_)
 cases hc:Qfn l id with
 | false=>rfl
 | true=>
  obtain ⟨p,hp,e⟩:=Nr.1 hc;obtain ⟨j,hj',rfl⟩:=Nh hp;exact absurd (Aa e) (hj j hj' hj')
section
variable {k:Int} [hk:Kd k]
theorem Z1n (id:Int):Tot (fun N=>Ge N k id) (Z1s k id&&Qu5 k id):=by
 refine TotP.tot ?_;unfold Ge Qu5;refine TotP.bindE (Z0w id) ?_;rw [Qa,Qa,Qa];refine TotP.cond (fun g=>?_) (fun g => .ret (by rw [g];rfl));rw [g];refine TotP.cond (fun g => .ret (by rw [g];rfl)) (fun g=>?_);rw [g];exact TotP.cond (fun g => .ret (by rw [g];rfl)) (fun g => .ret (by rw [g];rfl))
theorem Z2m {p:Qb} (h:Qdl k p=0):Z1s k p.ID=true:=by
 unfold Qdl at h;unfold Z1s
 cases hr:Q55 F_prop_rules_tab p.ID with
 | none=>rw [hr] at h;exact absurd (show (9:Int)=0 from h) (by decide)
 | some r=>
  rw [hr] at h;dsimp only at h ⊢
  cases hb:Qoj r.kinds k with
  | true=>rfl
  | false=>rw [hb,Ae (by decide)] at h;omega
theorem Qya (l:List Qb) (hl:l.length≤30) (p:Qb) (h:Qdl k p=0):Tot (fun N=>Ji N k l p.ID) (Qfn l p.ID && !(Qu5 k p.ID)):=by
 refine TotP.tot ?_;unfold Ji;refine TotP.bind (Qrx l hl p.ID) (fun v hv=>?_);rw [← hv];refine TotP.cond (fun g=>?_) (fun g => .ret (by rw [g];rfl));refine TotP.bindE (Z1n p.ID) (.ret ?_);rw [g,Z2m h];rfl
theorem Qxf (l:List Qb) (hl:l.length≤30) (hp:∀ p∈l,Qdl k p=0):Tot (fun N=>Ul N l) (Qjk l):=by
 refine TotP.tot ?_;unfold Ul;refine Qas (L:=fun N n (q:List UInt8×Int)=>Xx N l n q.1 q.2) (fun q=>∃ i:Nat,q.2=(i:Int)∧i≤l.length∧q.1=Qjk (l.take i)∧q.1.length≤i * 140001) (fun q=>l.length - q.2.toNat) ?_ ([],0) ⟨0,rfl,by omega,rfl,by simp⟩
 rintro ⟨o,s⟩ ⟨i,hs,hi,ho,hlen⟩
 simp only at hs ho hlen
 subst hs;show Stp _ _ _ (fun N n=>cond (Q3 .lss (i:Int) ((Q6 Qb.cells l).length:Int)) _ _);rw [Q4,Qd];refine Stp.cond (fun h=>?_) (fun h=>Stp.ret ?_)
 ·have hi:i<l.length:=by have h:=Aa h;omega
  obtain ⟨r,hr,hsh,hfit⟩:=Z4x (hp _ (Md hi));have hv:=Qhn hfit;refine Stp.idx (Z2 hi) ?_;refine Stp.chk (by rw [Ln];simp only [Lw];omega) ?_;refine Stp.idx (Z2 hi) ?_;refine Stp.bind (V:=(· = Qpx (Z0a l[i].ID) l[i])) ⟨_,rfl,Qpd (by rw [hsh];exact hfit)⟩ (fun v hv2=>?_);subst hv2;rw [hsh];refine Stp.chk (by rw [Ln];simp only [Le,Lw];omega) ?_;rw [w64 _ (by omega)];refine Stp.go (L:=fun N n (q:List UInt8×Int)=>Xx N l n q.1 q.2) (_,((i:Int)+1)) ⟨⟨i+1,by simp only;omega,by omega,?_,?_⟩,by simp only;omega⟩
  ·rw [Qol hi,ho,Lq];unfold Qux;rw [hsh];rfl
  simp only [Le,Lw];omega
 have e:i=l.length:=by have:=Ac h;omega
 rw [ho,e,Nj]
theorem Qdw (l:List Qb) (hl:l.length≤30) (hp:∀ p∈l,p.Text.length≤maxLen):Tot (fun N=>X2 N k l) (Q6x k [] l):=by
 refine TotP.tot ?_;unfold X2;rw [Q4,Qy];refine TotP.cond (fun g=>absurd (Aa g) (by omega)) (fun _=>?_);refine Q5n (L:=fun N n i=>Xj N k l n i) l.length (fun i=>Q6x k (l.take i) (l.drop i)=Q6x k [] l∧∀ j (h:j<l.length),j<i→Qdl k l[j]=0) (fun i hi hJ=>?_) (fun hJ=>?_) ⟨rfl,fun j _ h=>absurd h (Nat.not_lt_zero _)⟩
 ·obtain ⟨hJ,hc⟩:=hJ;have hla:=Z0r k hi;rw [hJ] at hla;show Stp _ _ _ (fun N n=>cond (Q3 .lss (i:Int) ((Q6 Qb.cells l).length:Int)) _ _);rw [Q4,Qd];refine Stp.cond (fun _=>?_) (fun h=>by have:=Ac h;omega);refine Stp.idx (Z2 hi) ?_;refine Stp.bind (V:=(· = Qdl k l[i])) ⟨_,rfl,Qyn _ (hp _ (Md hi))⟩ (fun v hv=>?_);subst hv;rw [Qq];refine Stp.cond (fun g=>Stp.ret ?_) (fun g=>?_)
  ·rw [hla,Af (Aa g)]
  have hok:Qdl k l[i]=0:=Decidable.byContradiction fun x=>Ac g x;rw [Ae (fun x=>x hok)] at hla;refine Stp.chk (Ad (by omega)) ?_;refine Stp.chk (by simp;omega) ?_;refine Stp.idx (Z2 hi) ?_;rw [Lt];refine Stp.bind (V:=(· = (Qfn (l.take i) l[i].ID && !(Qu5 k l[i].ID)))) ⟨_,rfl,Qya (l.take i) (by rw [Mk];omega) _ hok⟩ (fun w hw=>?_);subst hw;refine Stp.cond (fun g=>Stp.ret ?_) (fun g=>?_)
  ·rw [hla,Af g]
  rw [Ae (by rw [g];decide)] at hla;rw [w64 _ (by omega)];refine Stp.go (L:=fun N n i=>Xj N k l n i) _ ⟨by omega,hla.symm,fun j hj hji=>?_⟩
  by_cases e:j=i
  ·subst e;exact hok
  exact hc j hj (by omega)
 obtain ⟨hJ,hc⟩:=hJ;rw [Que] at hJ;show Stp _ _ _ (fun N n=>cond (Q3 .lss (l.length:Int) ((Q6 Qb.cells l).length:Int)) _ _);rw [Q4,Qd];refine Stp.cond (fun h=>by have:=Aa h;omega) (fun _=>Stp.fin ?_);refine TotP.bindE (v:=(Qfn l 22 && !(Qfn l 21))) (TotP.tot ?_) ?_
 ·unfold Q19;refine TotP.bind (Qrx l hl 22) (fun a ha=>?_);refine TotP.bind (Qrx l hl 21) (fun b hb=>?_);rw [← ha,← hb];exact TotP.cond (fun g => .ret (by rw [g];rfl)) (fun g => .ret (by rw [g];rfl))
 refine TotP.cond (fun g => .ret (by rw [← hJ,Af g])) (fun g=>?_);rw [Ae (by rw [g];decide)] at hJ
 have hb:∀ p∈l,Qdl k p=0:=fun p hp=>by
  obtain ⟨j,hj,rfl⟩:=Nh hp;exact hc j hj hj
 refine TotP.bindE (Qxf l hl hb) ?_
 have hlen:(Qjk l).length≤30 * 140001:=by
  have:∀ m:List Qb,(∀ p∈m,Qdl k p=0)→(Qjk m).length≤m.length * 140001:=fun m hm=>by
   induction m with
   | nil=>exact Lm _
   | cons a m ih=>
    obtain ⟨r,hr,hsh,hfit⟩:=Z4x (hm a Ns);have h1:=Qhn hfit;have h2:=ih fun p hp=>hm p (Nm _ hp);show (Qux a++Qjk m).length≤_;unfold Qux;rw [hsh,Le,Li,Li];omega
  exact Nd (this l hb) (Nu _ hl)
 rw [Qy];exact TotP.cond (fun g=>absurd (Aa g) (by omega)) (fun _ => .ret hJ)
end
end
end Go.Av
namespace Go.Av
noncomputable section
section
variable {p:Q1} (h:Qd0 p)
include h
end
end
end Go.Av
namespace Go.Av
noncomputable section
section
variable {p:Q1} (h:Qd0 p)
include h
end
section
variable {p:Q1} (h:Qd0 p)
include h
end
end
end Go.Av
namespace Go.Av
noncomputable section
structure Cd (B:Nat) (c:Q2v):Prop where
 d:c.do'=1∨c.do'=2
 nm:c.m.Name.length≤70000
 da:c.m.Data.length≤70000
 ou:c.out.length≤B
theorem Cd.mono {B C:Nat} {c:Q2v} (h:Cd B c) (hB:B≤C):Cd C c:=⟨h.d,h.nm,h.da,Nd h.ou hB⟩
theorem Cd.zero {B:Nat} {c:Q2v} (h:Cd B c):Q3 .eql c.do' 0=false:=by
 have:=h.d;rw [Qa];exact Ab (by omega)
section
variable {B:Nat} {c:Q2v} (h:Cd B c) (hB:B≤10000000)
include h hB
end
section
variable {B:Nat} {c:Q2v} (h:Cd B c) (hB:B≤1000000)
include h hB

end
section
variable {B:Nat} {c:Q2v} (h:Cd B c) (hB:B≤1000)
include h hB

end
structure OkM (m:Qcw):Prop where
 nm:m.Name.length≤70000
 da:m.Data.length≤70000
section
variable {m:Qcw} (h:OkM m)
include h
end
section
variable {m:Qcw} (h:OkM m)
include h
end
structure Z8l (d:Q4l):Prop where
 hops:d.Hops.length≤30
 node:∀ x∈d.Hops,x.Node.length≤300
 msg:OkM d.Msg
section
variable {d:Q4l} (h:Z8l d) (l:Ua)
include h
end
end
end Go.Av
namespace Go.Av
noncomputable section
theorem Qnf (p:Q1) (h1:p.Filters.length≤maxLen) (h2:p.Props.length≤maxLen) (h3:p.Will.Props.length≤maxLen):TotP (fun N=>Xz N p) (fun v=>v=true→Qd0 p):=by
 have hm:=Q9a
 have h30:300≤maxLen:=by unfold maxLen;decide
 have tail:(p.Filters.length≤30→∀ f∈p.Filters,f.Topic.length≤2000)→TotP (fun N=>cond (Q3 .leq (p.Topic.length:Int) 2000) (cond (Q3 .leq (p.Payload.length:Int) 2000) (cond (Q3 .leq (p.Client.length:Int) 2000) (cond (Q3 .leq (p.User.length:Int) 2000) (cond (Q3 .leq (p.Pass.length:Int) 2000)
  (cond (Q3 .leq (p.Will.Topic.length:Int) 2000) (cond (Q3 .leq (p.Will.Payload.length:Int) 2000) (cond (Q3 .leq ((Q6 (cI .i64) p.Codes).length:Int) 30) (cond (Q3 .leq (p.Filters.length:Int) 30)
  ((Qx N p.Props).bind fun v26=>cond v26 ((Qx N p.Will.Props).bind fun v29=>some v29) (some false)) (some false)) (some false)) (some false)) (some false)) (some false)) (some false)) (some false)) (some false)) (some false)) (fun v=>v=true→Qd0 p):=by
  intro hf;rw [Q4]
  iterate 9 refine TotP.cond (fun _=>?_) (fun _ => .ret (fun h=>nomatch h))
  rename_i a1 a2 a3 a4 a5 a6 a7 a8 a9;rw [Xu] at a1 a2 a3 a4 a5 a6 a7 a8 a9;have a1:=Aa a1;have a2:=Aa a2;have a3:=Aa a3;have a4:=Aa a4;have a5:=Aa a5;have a6:=Aa a6;have a7:=Aa a7;have a8:=Aa a8;have a9:=Aa a9;refine TotP.bind (Q9i _ h2) (fun v hv=>TotP.cond (fun hv1=>?_) (fun _ => .ret (fun h=>nomatch h)));refine TotP.bind (Q9i _ h3) (fun w hw => .ret (fun hw1=>?_));have g1:=hv hv1;have g2:=hw hw1;exact ⟨⟨by omega,by omega,by omega,by omega⟩,⟨g1.1,fun x hx=>Nd (g1.2 x hx).1 h30⟩,⟨g2.1,fun x hx=>Nd (g2.2 x hx).1 h30⟩,by omega,by omega,by omega,by omega,by omega,by omega,by omega,by omega,by omega,hf (by omega)⟩
 refine Q5n (L:=fun N n s=>Zi N p n s) p.Filters.length (fun i=>∀ j (h:j<p.Filters.length),j<i→(p.Filters[j]).Topic.length≤2000) (fun i hi hj=>?_) (fun hj=>?_) (fun j _ hj=>by omega)
 ·show Stp _ _ _ (fun N n=>cond (Q3 .lss (i:Int) ((Q6 Qg.cells p.Filters).length:Int)) _ _);rw [Q4,Qd];refine Stp.cond (fun _=>?_) (fun h=>by have:=Ac h;omega);refine Stp.cond (fun _=>?_) (fun h=>Stp.fin (tail (fun hc=>?_)))
  ·refine Stp.idx (Z2 hi) ?_;rw [Qy];refine Stp.cond (fun _=>Stp.ret (fun h=>nomatch h)) (fun h1=>?_);have h1:=Ac h1;rw [w64 _ (by omega)];refine Stp.go (L:=fun N n s=>Zi N p n s) _ ⟨by omega,fun j hj' hji=>?_⟩
   by_cases e:j=i
   ·subst e;omega
   exact hj j hj' (by omega)
  rw [Qd] at h;have:=Ac h;omega
 show Stp _ _ _ (fun N n=>cond (Q3 .lss (p.Filters.length:Int) ((Q6 Qg.cells p.Filters).length:Int)) _ _);rw [Q4,Qd];refine Stp.cond (fun h=>by have:=Aa h;omega) (fun _=>Stp.fin (tail (fun _ f hf=>?_)));obtain ⟨j,hj',rfl⟩:=Nh hf;exact hj j hj' hj'
theorem Qub (d:Q4l):TotP (fun N=>U5 N d) (fun v=>v=true→Z8l d):=by
 refine TotP.cond (fun _ => .ret (fun h=>nomatch h)) (fun h0=>?_);rw [Q4,Qy] at h0;have h0:=Ac h0;refine TotP.bind (V:=fun v=>v=true→OkM d.Msg) ?_ (fun v hv=>?_)
 ·show TotP (fun N=>cond (Q3 .leq (d.Msg.Name.length:Int) 70000) _ _) _;rw [Xu,Xu];refine TotP.cond (fun h1 => .ret (fun h2=>?_)) (fun _ => .ret (fun h=>nomatch h));have h1:=Aa h1;have h2:=Aa h2;exact ⟨by omega,by omega⟩
 refine TotP.cond (fun _ => .ret (fun h=>nomatch h)) (fun hn=>?_);have hM:=hv (by simpa using hn);refine Q5n (L:=fun N n s=>Y0 N d n s) d.Hops.length (fun i=>∀ j (h:j<d.Hops.length),j<i→(d.Hops[j]).Node.length≤300) (fun i hi hj=>?_) (fun hj=>?_) (fun j _ hj=>by omega)
 ·show Stp _ _ _ (fun N n=>cond (Q3 .lss (i:Int) ((Q6 Q3f.cells d.Hops).length:Int)) _ _);rw [Q4,Qd];refine Stp.cond (fun _=>?_) (fun h=>by have:=Ac h;omega);refine Stp.idx (Z2 hi) ?_;rw [Qy];refine Stp.cond (fun _=>Stp.ret (fun h=>nomatch h)) (fun h1=>?_);have h1:=Ac h1;rw [w64 _ (by omega)];refine Stp.go (L:=fun N n s=>Y0 N d n s) _ ⟨by omega,fun j hj' hji=>?_⟩
  by_cases e:j=i
  ·subst e;omega
  exact hj j hj' (by omega)
 show Stp _ _ _ (fun N n=>cond (Q3 .lss (d.Hops.length:Int) ((Q6 Q3f.cells d.Hops).length:Int)) _ _);rw [Q4,Qd];refine Stp.cond (fun h=>by have:=Aa h;omega) (fun _=>Stp.ret (fun _=>⟨by omega,fun x hx=>?_,hM⟩));obtain ⟨j,hj',rfl⟩:=Nh hx;exact hj j hj' hj'
theorem Qrm (f:Yy) (hv:∀ x∈f.Values,OkV x):TotP (fun N=>Yq N f) (fun v=>v=true→FB f):=by
 obtain ⟨r,_,N0,h⟩:=Qvu f;refine ⟨r,fun hr=>?_,N0,h⟩;obtain ⟨b,h1,h2⟩:=Qp3 (N:=max N0 800000000) (by omega) f;rw [show Yq (max N0 800000000) f=some r from h _ (by omega)] at h1;have:=h2 ((Am h1).symm.trans hr);exact Qye this.1 this.2.2 hv
structure LE (e:Qe):Prop where
 topic:e.Topic.length≤2000
 payload:e.Payload.length≤2000
 props:OkP e.Props
 pk:Qd0 e.Packet
 dg:Z8l ⟨e.Hops,e.Msg⟩
 fb:FB e.Frame
theorem Qyg (e:Qe) (h:OkE e) (hv:∀ x∈e.Frame.Values,OkV x):TotP (fun N=>Vt N e) (fun v=>v=true→LE e):=by
 have h30:300≤maxLen:=by unfold maxLen;decide
 refine TotP.cond (fun h1=>?_) (fun _ => .ret (fun h=>nomatch h));refine TotP.cond (fun h2=>?_) (fun _ => .ret (fun h=>nomatch h));rw [Xu] at h1 h2;have h1:=Aa h1;have h2:=Aa h2;refine TotP.bind (Q9i _ h.props) (fun v hv1=>?_);refine TotP.cond (fun h3=>?_) (fun _ => .ret (fun h=>nomatch h));refine TotP.bind (Qnf _ h.filters h.pprops h.wprops) (fun u hu=>?_);refine TotP.cond (fun hu1=>?_) (fun _ => .ret (fun h=>nomatch h));refine TotP.bind (Qub _) (fun w hw=>?_);refine TotP.cond (fun h4=>?_) (fun _ => .ret (fun h=>nomatch h));refine TotP.bind (Qrm _ hv) (fun x hx => .ret (fun h5=>?_));have g:=hv1 h3;exact ⟨by omega,by omega,⟨g.1,fun x hx=>Nd (g.2 x hx).1 h30⟩,hu hu1,hw h4,hx h5⟩
theorem Qbc (N:Nat) (s:List Qb) (h:s.length≤100000):Q44 N s=some s:=by
 unfold Q44
 cases s with
 | nil=>rfl
 | cons x s=>
  have e:Nat.beq (x::s).length 0=false:=rfl
  have e2:Nat.ble ((0+(x::s).length+4096) * 48) 17592186044416=true:=by rw [Ln];omega
  rw [e,e2];rfl
theorem Qp5 (N:Nat) (s:List Q3f) (h:s.length≤100000):Q9z N s=some s:=by
 unfold Q9z
 cases s with
 | nil=>rfl
 | cons x s=>
  have e:Nat.beq (x::s).length 0=false:=rfl
  have e2:Nat.ble ((0+(x::s).length+4096) * 24) 17592186044416=true:=by rw [Ln];omega
  rw [e,e2];rfl
theorem Qpj (N:Nat) (s:List Int) (h:s.length≤100000):Qa5 N s=some s:=by
 unfold Qa5
 cases s with
 | nil=>rfl
 | cons x s=>
  have e:Nat.beq (x::s).length 0=false:=rfl
  have e2:Nat.ble ((0+(x::s).length+4096) * 8) 17592186044416=true:=by rw [Ln];omega
  rw [e,e2];rfl
theorem Qjp (N:Nat) (s:List Qg) (h:s.length≤100000):Q62 N s=some s:=by
 unfold Q62
 cases s with
 | nil=>rfl
 | cons x s=>
  have e:Nat.beq (x::s).length 0=false:=rfl
  have e2:Nat.ble ((0+(x::s).length+4096) * 40) 17592186044416=true:=by rw [Ln];omega
  rw [e,e2];rfl
theorem Qpq (N:Nat) (p:Q1) (h:Qd0 p):Q78 N p=some p:=by
 have h1:=h.codes;have h2:=h.filters.1;have h3:=h.props.len;have h4:=h.wprops.len;unfold Q78;rw [Qpj N _ (by omega),Qjp N _ (by omega),Qbc N _ (by omega),Qbc N _ (by omega)];rfl
end
end Go.Av
namespace Go.Av
noncomputable section
theorem Z6o (a b:Qe):(((a.Msg.Type':Int) == b.Msg.Type')&&(((a.Msg.Flags.Dup:Bool) == b.Msg.Flags.Dup)&&(((a.Msg.Flags.QoS:Int) == b.Msg.Flags.QoS)&&(((a.Msg.Flags.Retain:Bool) == b.Msg.Flags.Retain)&&(((a.Msg.Flags.Will:Bool) == b.Msg.Flags.Will)&&(((a.Msg.Flags.Clean:Bool) == b.Msg.Flags.Clean)&&(((a.Msg.Flags.Type':Int) == b.Msg.Flags.Type')&&(((a.Msg.Gateway:Int) == b.Msg.Gateway)&&(((a.Msg.Radius:Int) == b.Msg.Radius)&&(((a.Msg.Time:Int) == b.Msg.Time)&&(((a.Msg.Timed:Bool) == b.Msg.Timed)&&(((a.Msg.TopicID:Int) == b.Msg.TopicID)&&(((a.Msg.MsgID:Int) == b.Msg.MsgID)&&(((a.Msg.Code:Int) == b.Msg.Code)&&(((a.Msg.Name:List UInt8) == b.Msg.Name)&&(((a.Msg.Data:List UInt8) == b.Msg.Data)&&true))))))))))))))))=true↔a.Msg=b.Msg:=by
 generalize a.Msg=m;generalize b.Msg=n;obtain ⟨a1,⟨f1,f2,f3,f4,f5,f6⟩,a2,a3,a4,a5,a6,a7,a8,a9,a10⟩:=m;obtain ⟨b1,⟨g1,g2,g3,g4,g5,g6⟩,b2,b3,b4,b5,b6,b7,b8,b9,b10⟩:=n;simp
 intros;simp only [and_assoc]
theorem Z8t {a b:Qe} (h0:a.Proto=b.Proto) (h1:a.Kind=b.Kind) (h2:a.Topic=b.Topic) (h3:a.Payload=b.Payload) (h4:a.QoS=b.QoS) (h5:a.Retain=b.Retain) (h6:a.Dup=b.Dup) (h7:a.ID=b.ID) (h8:a.Props=b.Props) (h9:a.Type'=b.Type') (h10:a.Hops=b.Hops) (h11:a.Channel=b.Channel) (h12:a.Packet=b.Packet) (h13:a.Msg=b.Msg) (h14:a.Frame=b.Frame):a=b:=by
 cases a;cases b;simp only at h0 h1 h2 h3 h4 h5 h6 h7 h8 h9 h10 h11 h12 h13 h14;subst h0 h1 h2 h3 h4 h5 h6 h7 h8 h9 h10 h11 h12 h13 h14;rfl
structure Z71 (a:Qe):Prop where
 props:a.Props.length≤maxLen
 hops:a.Hops.length≤maxLen
 pk:Z03 a.Packet
 fr:Q2.szs a.Frame.Values<700000000
theorem Qm0 (a b:Qe) (h:Z71 a):TotP (fun N=>Q0r N a b) (fun v=>v=true↔a=b):=by
 unfold Q0r;simp only [Qq,Q82];refine TotP.cond (fun g => .ret ⟨fun e=>absurd e Lk,fun e=>absurd g (by rw [e];simp)⟩) (fun g=>?_)
 have e0:a.Proto=b.Proto:=by simpa using g
 clear g;refine TotP.cond (fun g => .ret ⟨fun e=>absurd e Lk,fun e=>absurd g (by rw [e];simp)⟩) (fun g=>?_)
 have e1:a.Kind=b.Kind:=by simpa using g
 clear g;refine TotP.cond (fun g => .ret ⟨fun e=>absurd e Lk,fun e=>absurd g (by rw [e];simp)⟩) (fun g=>?_)
 have e2:a.Topic=b.Topic:=by simpa using g
 clear g;refine TotP.cond (fun g => .ret ⟨fun e=>absurd e Lk,fun e=>absurd g (by rw [e];simp)⟩) (fun g=>?_)
 have e3:a.Payload=b.Payload:=by simpa using g
 clear g;refine TotP.cond (fun g => .ret ⟨fun e=>absurd e Lk,fun e=>absurd g (by rw [e];simp)⟩) (fun g=>?_)
 have e4:a.QoS=b.QoS:=by simpa using g
 clear g;refine TotP.cond (fun g => .ret ⟨fun e=>absurd e Lk,fun e=>absurd g (by rw [e];simp)⟩) (fun g=>?_)
 have e5:a.Retain=b.Retain:=by simpa using g
 clear g;refine TotP.cond (fun g => .ret ⟨fun e=>absurd e Lk,fun e=>absurd g (by rw [e];simp)⟩) (fun g=>?_)
 have e6:a.Dup=b.Dup:=by simpa using g
 clear g;refine TotP.cond (fun g => .ret ⟨fun e=>absurd e Lk,fun e=>absurd g (by rw [e];simp)⟩) (fun g=>?_)
 have e7:a.ID=b.ID:=by simpa using g
 clear g;refine TotP.cond (fun g => .ret ⟨fun e=>absurd e Lk,fun e=>absurd g (by rw [e];simp)⟩) (fun g=>?_)
 have e8:a.Type'=b.Type':=by simpa using g
 clear g;refine TotP.cond (fun g => .ret ⟨fun e=>absurd e Lk,fun e=>absurd g (by rw [e];simp)⟩) (fun g=>?_)
 have e9:a.Channel=b.Channel:=by simpa using g
 clear g;refine TotP.bind (Qot _ _ h.props) (fun v1 g1=>?_);refine TotP.cond (fun c1=>?_) (fun c1 => .ret ⟨fun e=>absurd e Lk,fun e=>absurd (g1.2 (by rw [e])) (by rw [c1];simp)⟩);refine TotP.bind (Qqj _ _ h.hops) (fun v2 g2=>?_);refine TotP.cond (fun c2=>?_) (fun c2 => .ret ⟨fun e=>absurd e Lk,fun e=>absurd (g2.2 (by rw [e])) (by rw [c2];simp)⟩);refine TotP.bind (Q1p _ _ h.pk) (fun v3 g3=>?_);refine TotP.cond (fun c3=>?_) (fun c3 => .ret ⟨fun e=>absurd e Lk,fun e=>absurd (g3.2 (by rw [e])) (by rw [c3];simp)⟩);refine TotP.cond (fun c4=>?_) (fun c4 => .ret ⟨fun e=>absurd e Lk,fun e=>absurd ((Z6o a b).2 (by rw [e])) (by rw [c4];simp)⟩);refine TotP.bind (f:=fun N=>Q08 N a.Frame b.Frame) (V:=fun v=>v=decide (a.Frame=b.Frame)) ⟨_,rfl,800000000,fun N hN=>Qmz hN _ _ h.fr⟩ (fun v g => .ret ?_);have q:=(Z6o a b).1 c4;rw [g,Ag];exact ⟨fun e=>Z8t e0 e1 e2 e3 e4 e5 e6 e7 (g1.1 c1) e8 (g2.1 c2) e9 (g3.1 c3) q e,fun e=>by rw [e]⟩
structure PubT (e:Qe) (c t b:Bool):Prop where
 known:e.Proto=1∨e.Proto=2∨e.Proto=3∨e.Proto=4
 kind:e.Kind=1
 qos:(0≤e.QoS∧e.QoS≤2)∨(e.Proto=3∧e.QoS = -1)
 id:0≤e.ID∧e.ID≤65535
 cid:c=decide (e.ID≠0)
 dup:e.Dup=true→c=true∨e.Proto=3
 props:0<e.Props.length→e.Proto=2
 ty:e.Proto=3→t=true
 ty2:e.Proto≠3→e.Type'=0∧e.Hops.length=0
 ch:0≤e.Channel∧e.Channel≤65535
 ch4:e.Channel≠0→e.Proto=4
 bare:b=true
section
end
end
end Go.Av
namespace Go.Av
noncomputable section
theorem Qc0 (a b:List Qb) (ha:a.length≤maxLen):TotP (fun N=>V9 N a b) (fun v=>v=true↔a=b):=by
 unfold V9;rw [Q4,Q4,Qq];refine TotP.cond (fun h => .ret ⟨fun h=>(by cases h),fun e=>?_⟩) (fun h=>?_)
 ·have:=Aa h;subst e;exact absurd rfl this
 have h:=Ac h
 have hab:a.length=b.length:=by omega
 refine Qdt (L:=fun N n i=>Ww N a b n i) (eq:=fun x y=>((x.ID:Int) == y.ID)&&(((x.N':Int) == y.N')&&(((x.Text:List UInt8) == y.Text)&&(((x.Value:List UInt8) == y.Value)&&true)))) (fun _ _=>Z35) hab ha (fun N n i h h'=>?_) (fun N n=>?_)
 ·show cond (Q3 .lss (i:Int) ((Q6 Qb.cells a).length:Int)) ((idx a (i:Int)).bind _) _=_;rw [Q4,Qd,Ad (by omega),Z2 h,Z2 h'];rfl
 show cond (Q3 .lss (a.length:Int) ((Q6 Qb.cells a).length:Int)) _ _=_;rw [Q4,Qd,Ab (by omega)];rfl
theorem Qq7 (a b:List Q3f) (ha:a.length≤maxLen):TotP (fun N=>Gi N a b) (fun v=>v=true↔a=b):=by
 unfold Gi;rw [Q4,Q4,Qq];refine TotP.cond (fun h => .ret ⟨fun h=>(by cases h),fun e=>?_⟩) (fun h=>?_)
 ·have:=Aa h;subst e;exact absurd rfl this
 have h:=Ac h
 have hab:a.length=b.length:=by omega
 refine Qdt (L:=fun N n i=>Wu N a b n i) (eq:=fun x y=>((x.Radius:Int) == y.Radius)&&(((x.Node:List UInt8) == y.Node)&&true)) (fun _ _=>Za1) hab ha (fun N n i h h'=>?_) (fun N n=>?_)
 ·show cond (Q3 .lss (i:Int) ((Q6 Q3f.cells a).length:Int)) ((idx a (i:Int)).bind _) _=_;rw [Q4,Qd,Ad (by omega),Z2 h,Z2 h'];rfl
 show cond (Q3 .lss (a.length:Int) ((Q6 Q3f.cells a).length:Int)) _ _=_;rw [Q4,Qd,Ab (by omega)];rfl
theorem Qk0 (a b:List Qg) (ha:a.length≤maxLen):TotP (fun N=>U4 N a b) (fun v=>v=true↔a=b):=by
 unfold U4;rw [Q4,Q4,Qq];refine TotP.cond (fun h => .ret ⟨fun h=>(by cases h),fun e=>?_⟩) (fun h=>?_)
 ·have:=Aa h;subst e;exact absurd rfl this
 have h:=Ac h
 have hab:a.length=b.length:=by omega
 refine Qdt (L:=fun N n i=>Xt N a b n i) (eq:=fun x y=>((x.Topic:List UInt8) == y.Topic)&&(((x.QoS:Int) == y.QoS)&&(((x.NoLocal:Bool) == y.NoLocal)&&(((x.AsPublished:Bool) == y.AsPublished)&&(((x.Handling:Int) == y.Handling)&&true))))) (fun _ _=>Qx9) hab ha (fun N n i h h'=>?_) (fun N n=>?_)
 ·show cond (Q3 .lss (i:Int) ((Q6 Qg.cells a).length:Int)) ((idx a (i:Int)).bind _) _=_;rw [Q4,Qd,Ad (by omega),Z2 h,Z2 h'];rfl
 show cond (Q3 .lss (a.length:Int) ((Q6 Qg.cells a).length:Int)) _ _=_;rw [Q4,Qd,Ab (by omega)];rfl
theorem Qpy (a b:List Int) (ha:a.length≤maxLen):TotP (fun N=>Gg N a b) (fun v=>v=true↔a=b):=by
 unfold Gg;rw [Q4,Q4,Qq];refine TotP.cond (fun h => .ret ⟨fun h=>(by cases h),fun e=>?_⟩) (fun h=>?_)
 ·have:=Aa h;subst e;exact absurd rfl this
 have h:=Ac h
 have hab:a.length=b.length:=by omega
 refine Qdt (L:=fun N n i=>Wz N a b n i) (eq:=fun x y=>Q3 .eql x y) (fun x y=>by rw [Qa];exact decide_eq_true_iff) hab ha (fun N n i h h'=>?_) (fun N n=>?_)
 ·show cond (Q3 .lss (i:Int) ((Q6 (cI .i64) a).length:Int)) ((idx a (i:Int)).bind _) _=_;rw [Q4,Qd,Ad (by omega),Z2 h,Z2 h'];simp only [Ll,Ai,Qq,Qa,decide_not]
 show cond (Q3 .lss (a.length:Int) ((Q6 (cI .i64) a).length:Int)) _ _=_;rw [Q4,Qd,Ab (by omega)];rfl
theorem Jj (a b:Q1) (h:Z03 a):TotP (fun N=>Qi N a b) (fun v=>v=true↔a=b):=by
 unfold Qi;simp only [Qq,Q82];refine TotP.cond (fun g => .ret ⟨fun e=>absurd e Lk,fun e=>absurd g (by rw [e];simp)⟩) (fun g=>?_)
 have e0:a.Will.Topic=b.Will.Topic:=by simpa using g
 clear g;refine TotP.cond (fun g => .ret ⟨fun e=>absurd e Lk,fun e=>absurd g (by rw [e];simp)⟩) (fun g=>?_)
 have e1:a.Will.Payload=b.Will.Payload:=by simpa using g
 clear g;refine TotP.cond (fun g => .ret ⟨fun e=>absurd e Lk,fun e=>absurd g (by rw [e];simp)⟩) (fun g=>?_)
 have e2:a.Will.QoS=b.Will.QoS:=by simpa using g
 clear g;refine TotP.cond (fun g => .ret ⟨fun e=>absurd e Lk,fun e=>absurd g (by rw [e];simp)⟩) (fun g=>?_)
 have e3:a.Will.Retain=b.Will.Retain:=by simpa using g
 clear g;refine TotP.bind (Qc0 _ _ h.wprops) (fun v hv=>?_);refine TotP.cond (fun g => .ret ⟨fun e=>absurd e Lk,fun e=>absurd (hv.2 (by rw [e])) (by simpa using g)⟩) (fun g=>?_);have e4:a.Will.Props=b.Will.Props:=hv.1 (by simpa using g);clear g hv;refine TotP.cond (fun g => .ret ⟨fun e=>absurd e Lk,fun e=>absurd g (by rw [e];simp)⟩) (fun g=>?_)
 have e5:a.Kind=b.Kind:=by simpa using g
 clear g;refine TotP.cond (fun g => .ret ⟨fun e=>absurd e Lk,fun e=>absurd g (by rw [e];simp)⟩) (fun g=>?_)
 have e6:a.Dup=b.Dup:=by simpa using g
 clear g;refine TotP.cond (fun g => .ret ⟨fun e=>absurd e Lk,fun e=>absurd g (by rw [e];simp)⟩) (fun g=>?_)
 have e7:a.Retain=b.Retain:=by simpa using g
 clear g;refine TotP.cond (fun g => .ret ⟨fun e=>absurd e Lk,fun e=>absurd g (by rw [e];simp)⟩) (fun g=>?_)
 have e8:a.QoS=b.QoS:=by simpa using g
 clear g;refine TotP.cond (fun g => .ret ⟨fun e=>absurd e Lk,fun e=>absurd g (by rw [e];simp)⟩) (fun g=>?_)
 have e9:a.ID=b.ID:=by simpa using g
 clear g;refine TotP.cond (fun g => .ret ⟨fun e=>absurd e Lk,fun e=>absurd g (by rw [e];simp)⟩) (fun g=>?_)
 have e10:a.Topic=b.Topic:=by simpa using g
 clear g;refine TotP.cond (fun g => .ret ⟨fun e=>absurd e Lk,fun e=>absurd g (by rw [e];simp)⟩) (fun g=>?_)
 have e11:a.Payload=b.Payload:=by simpa using g
 clear g;refine TotP.cond (fun g => .ret ⟨fun e=>absurd e Lk,fun e=>absurd g (by rw [e];simp)⟩) (fun g=>?_)
 have e12:a.Clean=b.Clean:=by simpa using g
 clear g;refine TotP.cond (fun g => .ret ⟨fun e=>absurd e Lk,fun e=>absurd g (by rw [e];simp)⟩) (fun g=>?_)
 have e13:a.KeepAlive=b.KeepAlive:=by simpa using g
 clear g;refine TotP.cond (fun g => .ret ⟨fun e=>absurd e Lk,fun e=>absurd g (by rw [e];simp)⟩) (fun g=>?_)
 have e14:a.Client=b.Client:=by simpa using g
 clear g;refine TotP.cond (fun g => .ret ⟨fun e=>absurd e Lk,fun e=>absurd g (by rw [e];simp)⟩) (fun g=>?_)
 have e15:a.HasUser=b.HasUser:=by simpa using g
 clear g;refine TotP.cond (fun g => .ret ⟨fun e=>absurd e Lk,fun e=>absurd g (by rw [e];simp)⟩) (fun g=>?_)
 have e16:a.User=b.User:=by simpa using g
 clear g;refine TotP.cond (fun g => .ret ⟨fun e=>absurd e Lk,fun e=>absurd g (by rw [e];simp)⟩) (fun g=>?_)
 have e17:a.HasPass=b.HasPass:=by simpa using g
 clear g;refine TotP.cond (fun g => .ret ⟨fun e=>absurd e Lk,fun e=>absurd g (by rw [e];simp)⟩) (fun g=>?_)
 have e18:a.Pass=b.Pass:=by simpa using g
 clear g;refine TotP.cond (fun g => .ret ⟨fun e=>absurd e Lk,fun e=>absurd g (by rw [e];simp)⟩) (fun g=>?_)
 have e19:a.HasWill=b.HasWill:=by simpa using g
 clear g;refine TotP.cond (fun g => .ret ⟨fun e=>absurd e Lk,fun e=>absurd g (by rw [e];simp)⟩) (fun g=>?_)
 have e20:a.Session=b.Session:=by simpa using g
 clear g;refine TotP.cond (fun g => .ret ⟨fun e=>absurd e Lk,fun e=>absurd g (by rw [e];simp)⟩) (fun g=>?_)
 have e21:a.Code=b.Code:=by simpa using g
 clear g;refine TotP.bind (Qpy _ _ h.codes) (fun v hv=>?_);refine TotP.cond (fun g=>?_) (fun g => .ret ⟨fun e=>absurd e Lk,fun e=>absurd (hv.2 (by rw [e])) (by rw [g];decide)⟩);have e22:a.Codes=b.Codes:=hv.1 g;clear g hv;refine TotP.bind (Qk0 _ _ h.filters) (fun v hv=>?_);refine TotP.cond (fun g=>?_) (fun g => .ret ⟨fun e=>absurd e Lk,fun e=>absurd (hv.2 (by rw [e])) (by rw [g];decide)⟩);have e23:a.Filters=b.Filters:=hv.1 g;clear g hv;refine TotP.bind (Qc0 _ _ h.props) (fun v hv => .ret ⟨fun g=>?_,fun e=>hv.2 (by rw [e])⟩);have el:a.Props=b.Props:=hv.1 g;obtain ⟨a0,a1,a2,a3,a4,a5,a6,a7,a8,a9,a10,a11,a12,a13,a14,⟨w0,w1,w2,w3,w4⟩,a16,a17,a18,a19,a20⟩:=a;obtain ⟨b0,b1,b2,b3,b4,b5,b6,b7,b8,b9,b10,b11,b12,b13,b14,⟨x0,x1,x2,x3,x4⟩,b16,b17,b18,b19,b20⟩:=b
 simp_all
theorem Qtp (x y:Qcw):(((x.Type':Int) == y.Type')&&(((x.Flags.Dup:Bool) == y.Flags.Dup)&&(((x.Flags.QoS:Int) == y.Flags.QoS)&&(((x.Flags.Retain:Bool) == y.Flags.Retain)&&(((x.Flags.Will:Bool) == y.Flags.Will)&&(((x.Flags.Clean:Bool) == y.Flags.Clean)&&(((x.Flags.Type':Int) == y.Flags.Type')&&(((x.Gateway:Int) == y.Gateway)&&(((x.Radius:Int) == y.Radius)&&(((x.Time:Int) == y.Time)&&(((x.Timed:Bool) == y.Timed)&&(((x.TopicID:Int) == y.TopicID)&&(((x.MsgID:Int) == y.MsgID)&&(((x.Code:Int) == y.Code)&&(((x.Name:List UInt8) == y.Name)&&(((x.Data:List UInt8) == y.Data)&&true))))))))))))))))=true↔x=y:=by
 obtain ⟨a,⟨b,c,d,e,f,g⟩,h,i,j,k,l,m,n,o,p⟩:=x;obtain ⟨a',⟨b',c',d',e',f',g'⟩,h',i',j',k',l',m',n',o',p'⟩:=y;simp [and_assoc]
theorem Qff (a b:Qe) (h:Z71 a):TotP (fun N=>Y9 N a b) (fun v=>v=true↔a=b):=by
 unfold Y9;simp only [Qa,Gq];refine TotP.cond (fun g=>?_) (fun g => .ret ⟨fun e=>absurd e Lk,fun e=>absurd g (by rw [e];simp)⟩)
 have e24:a.Proto=b.Proto:=by simpa using g
 clear g;refine TotP.cond (fun g=>?_) (fun g => .ret ⟨fun e=>absurd e Lk,fun e=>absurd g (by rw [e];simp)⟩)
 have e25:a.Kind=b.Kind:=by simpa using g
 clear g;refine TotP.cond (fun g=>?_) (fun g => .ret ⟨fun e=>absurd e Lk,fun e=>absurd g (by rw [e];simp)⟩)
 have e26:a.Topic=b.Topic:=by simpa using g
 clear g;refine TotP.cond (fun g=>?_) (fun g => .ret ⟨fun e=>absurd e Lk,fun e=>absurd g (by rw [e];simp)⟩)
 have e27:a.Payload=b.Payload:=by simpa using g
 clear g;refine TotP.cond (fun g=>?_) (fun g => .ret ⟨fun e=>absurd e Lk,fun e=>absurd g (by rw [e];simp)⟩)
 have e28:a.QoS=b.QoS:=by simpa using g
 clear g;refine TotP.cond (fun g=>?_) (fun g => .ret ⟨fun e=>absurd e Lk,fun e=>absurd g (by rw [e];simp)⟩)
 have e29:a.Retain=b.Retain:=by simpa using g
 clear g;refine TotP.cond (fun g=>?_) (fun g => .ret ⟨fun e=>absurd e Lk,fun e=>absurd g (by rw [e];simp)⟩)
 have e30:a.Dup=b.Dup:=by simpa using g
 clear g;refine TotP.cond (fun g=>?_) (fun g => .ret ⟨fun e=>absurd e Lk,fun e=>absurd g (by rw [e];simp)⟩)
 have e31:a.ID=b.ID:=by simpa using g
 clear g;refine TotP.bind (Qc0 _ _ h.props) (fun v hv=>?_);refine TotP.cond (fun g=>?_) (fun g => .ret ⟨fun e=>absurd e Lk,fun e=>absurd (hv.2 (by rw [e])) (by rw [g];decide)⟩);have e32:a.Props=b.Props:=hv.1 g;clear g hv;refine TotP.cond (fun g=>?_) (fun g => .ret ⟨fun e=>absurd e Lk,fun e=>absurd g (by rw [e];simp)⟩)
 have e33:a.Type'=b.Type':=by simpa using g
 clear g;refine TotP.bind (Qq7 _ _ h.hops) (fun v hv=>?_);refine TotP.cond (fun g=>?_) (fun g => .ret ⟨fun e=>absurd e Lk,fun e=>absurd (hv.2 (by rw [e])) (by rw [g];decide)⟩);have e34:a.Hops=b.Hops:=hv.1 g;clear g hv;refine TotP.cond (fun g=>?_) (fun g => .ret ⟨fun e=>absurd e Lk,fun e=>absurd g (by rw [e];simp)⟩)
 have e35:a.Channel=b.Channel:=by simpa using g
 clear g;refine TotP.bind (Jj _ _ h.pk) (fun v hv=>?_);refine TotP.cond (fun g=>?_) (fun g => .ret ⟨fun e=>absurd e Lk,fun e=>absurd (hv.2 (by rw [e])) (by rw [g];decide)⟩);have e36:a.Packet=b.Packet:=hv.1 g;clear g hv;refine TotP.cond (fun g=>?_) (fun g => .ret ⟨fun e=>absurd e Lk,fun e=>absurd ((Qtp a.Msg b.Msg).2 (by rw [e])) (by rw [g];decide)⟩);have e37:a.Msg=b.Msg:=(Qtp _ _).1 g;clear g;refine TotP.bind (V:=fun v=>v=true↔a.Frame=b.Frame) ⟨decide (a.Frame=b.Frame),decide_eq_true_iff,800000000,fun N hN=>Qgt hN _ _ h.fr⟩ (fun v hv => .ret ⟨fun g=>?_,fun e=>hv.2 (by rw [e])⟩);have el:a.Frame=b.Frame:=hv.1 g;cases a;cases b
 simp_all
end
end Go.Av
namespace Go.Av
noncomputable section
def Qqg (k c:Int):Bool:=(Qxz k c).getD false
theorem Qhj (k c:Int):Tot (fun N=>Q0q N k c) (Qqg k c):=by
 obtain ⟨r,_,N0,h⟩:=Qua k c;have e:Qxz k c=some r:=h N0 (Lj _);refine .of fun N=>?_;show Qxz k c=_;unfold Qqg;rw [e];rfl
def Qte (k:Int):List Int:=if k=2 then [0,128,129,130,131,132,133,134,135,136,137,138,140,144,149,151,153,154,155,156,157,159] else if k=4∨k=5 then [0,16,128,131,135,144,145,151,153] else if k=6∨k=7 then [0,146] else
 if k=9 then [0,1,2,128,131,135,143,145,151,158,161,162] else if k=11 then [0,17,128,131,135,143,145] else if k=14 then [0,4,128,129,130,131,135,137,139,141,142,143,144,147,148,149,150,151,152,153,154,155,156,157,158,159,160,161,162] else if k=15 then [0,24,25] else []
theorem Qwl (k:Int):∀ c∈Qte k,0≤c∧c<256:=by
 unfold Qte
 repeat' split
 all_goals decide
theorem Qvj (k c:Int):Qqg k c=(Qte k).contains c:=by
 by_cases hc:0≤c∧c<256
 ·obtain ⟨n,rfl⟩:∃ n:Nat,c=(n:Int):=⟨c.toNat,by omega⟩
  have hn:n<256:=by omega
  have key:∀ k∈([2,4,5,6,7,9,11,14,15]:List Int),∀ n:Fin 256,Qqg k ((n.val:Nat):Int)=(Qte k).contains ((n.val:Nat):Int):=by decide +kernel
  by_cases hk:k∈([2,4,5,6,7,9,11,14,15]:List Int)
  ·exact key k hk ⟨n,hn⟩
  simp only [Ml,Be,or_false,not_or] at hk
  have e:Qte k = []:=by unfold Qte;simp [hk]
  have z:Qg9 k=Qg9 0:=by
   unfold Qg9 rcodesT
   have f:∀ j:Int,k≠j→(j == k)=false:=fun j h=>by simp;exact fun x=>h x.symm
   simp only [List.find?,f _ hk.1,f _ hk.2.1,f _ hk.2.2.1,f _ hk.2.2.2.1,f _ hk.2.2.2.2.1,f _ hk.2.2.2.2.2.1,f _ hk.2.2.2.2.2.2.1,f _ hk.2.2.2.2.2.2.2.1,f _ hk.2.2.2.2.2.2.2.2];rfl
  have key0:∀ n:Fin 256,Qqg 0 ((n.val:Nat):Int)=false:=by decide +kernel
  have:Qqg k (n:Int)=Qqg 0 (n:Int):=by unfold Qqg Qxz;rw [z]
  rw [this,e];exact key0 ⟨n,hn⟩
 have h2:(Qte k).contains c=false:=by
  cases h:(Qte k).contains c with
  | false=>rfl
  | true=>exact absurd (Qwl k c (Mu.1 h)) hc
 rw [h2];obtain ⟨w0,w1,w2,w3,e,_⟩:=Qi5 k;unfold Qqg Qxz;rw [e];unfold Z4o;rw [Wx,Qd]
 by_cases h0:0≤c
 ·rw [Ad (p:=c≥0) h0,Ab (p:=c<256) (by omega)];rfl
 rw [Ab (p:=c≥0) h0];rfl
theorem Qyv (k:Int):Tot (fun N=>Q00 N k) (Qte k):=by
 unfold Q00 Qte;simp only [Qa]
 by_cases h2:k=2
 ·subst h2;exact ⟨60,fun N hN=>by obtain ⟨M,rfl⟩:∃ M,N=M+60:=⟨N - 60,by omega⟩;rfl⟩
 by_cases h4:k=4
 ·subst h4;exact .of fun _=>rfl
 by_cases h5:k=5
 ·subst h5;exact .of fun _=>rfl
 by_cases h6:k=6
 ·subst h6;exact .of fun _=>rfl
 by_cases h7:k=7
 ·subst h7;exact .of fun _=>rfl
 by_cases h9:k=9
 ·subst h9;exact .of fun _=>rfl
 by_cases h11:k=11
 ·subst h11;exact .of fun _=>rfl
 by_cases h14:k=14
 ·subst h14;exact ⟨60,fun N hN=>by obtain ⟨M,rfl⟩:∃ M,N=M+60:=⟨N - 60,by omega⟩;rfl⟩
 by_cases h15:k=15
 ·subst h15;exact .of fun _=>rfl
 refine .of fun _=>?_;simp [h2,h4,h5,h6,h7,h9,h11,h14,h15]
theorem Qhe (k c:Int):Tot (fun N=>Z1 N k c) (Qqg k c):=by
 rw [Qvj];refine TotP.tot ?_;unfold Z1;refine TotP.bindE (Qyv k) ?_
 have hl:(Qte k).length≤40:=by unfold Qte;(repeat' split)<;>decide
 generalize Qte k=l at hl;refine Q5n (L:=fun N n i=>W5 N c l n i) l.length (fun i=>∀ j (h:j<l.length),j<i→l[j]≠c) (fun i hi hj=>?_) (fun hj=>?_) (fun j _ hj=>by omega)
 ·show Stp _ _ _ (fun N n=>cond (Q3 .lss (i:Int) ((Q6 (cI .i64) l).length:Int)) _ _);rw [Q4,Qd];refine Stp.cond (fun _=>?_) (fun h=>by have:=Ac h;omega);refine Stp.idx (Z2 hi) ?_;rw [Qa];refine Stp.cond (fun h=>Stp.ret ?_) (fun h=>?_)
  ·exact (Mu.2 (by rw [← Aa h];exact Md hi)).symm
  rw [w64 _ (by omega)];refine Stp.go (L:=fun N n i=>W5 N c l n i) _ ⟨by omega,fun j hj' hji=>?_⟩
  by_cases e:j=i
  ·subst e;exact Ac h
  exact hj j hj' (by omega)
 show Stp _ _ _ (fun N n=>cond (Q3 .lss (l.length:Int) ((Q6 (cI .i64) l).length:Int)) _ _);rw [Q4,Qd];refine Stp.cond (fun h=>by have:=Aa h;omega) (fun _=>Stp.ret ?_)
 cases hc:l.contains c with
 | false=>rfl
 | true=>
  obtain ⟨j,hj',e⟩:=Nh (Mu.1 hc);exact absurd e (hj j hj' hj')
end
end Go.Av
namespace Go.Av
noncomputable section
def Z3h (p:Q1):Q1:=⟨p.Kind,false,false,0,p.ID,[],[],false,0,[],false,[],false,[],false,(⟨[],[],0,false,[]⟩:Xn),false,p.Code,[],[],p.Props⟩
def Qn1 (v:Int) (p:Q1):Prop:=(v=4∨v=5)∧(4≤p.Kind∧p.Kind≤7)∧(1≤p.ID∧p.ID≤65535)∧Qqg p.Kind p.Code=true∧(v=4→p.Code=0∧p.Props = [])∧p=Z3h p
open Classical in
noncomputable def Qrw (v:Int) (p:Q1):Int:=if Qn1 v p then Q6x p.Kind [] p.Props else 2
theorem Qbs {v:Int} {p:Q1} (h:¬ Qn1 v p):TotP (fun _=>some (2:Int)) (· = Qrw v p) := .ret (by unfold Qrw;rw [Ae h])
theorem Qed (N:Nat) (v:Int):Z8 N v=some (decide (v=4∨v=5)):=by
 unfold Z8;rw [Qa,Qa]
 by_cases h:v=4
 ·rw [Ad h,Ad (p:=v=4∨v=5) (.inl h)];rfl
 rw [Ab h,Ct,Ab h];rfl
section
variable {p:Q1} (h:Qd0 p)
include h
theorem Q91 (k:Int) [Kd k]:Tot (fun N=>X8 N k p.Props) (Q6x k [] p.Props):=Qid _ h.props.len h.props.txt
theorem Q6u {v k:Int} [Kd k] (hv:v=4→p.Props = []):Tot (fun N=>Q5 N v k p.Props) (Q6x k [] p.Props):=by
 refine TotP.tot ?_;unfold Q5;rw [Qa];refine TotP.cond (fun g=>?_) (fun _=>?_)
 ·rw [hv (Aa g)];exact TotP.cond (fun g=>nomatch g) (fun _ => .ret rfl)
 exact TotP.bindE (Qdw _ h.props.len h.props.txt) (.ret rfl)
theorem Z7l (v:Int):Tot (fun N=>Q71 N v p) (Qrw v p):=by
 refine TotP.tot ?_
 have hkn:∀ N,Q7k N v p.Kind=some (decide ((v=4∨v=5)∧4≤p.Kind∧p.Kind≤7)):=fun N=>by
  unfold Q7k;rw [Qa,Qa,Wx,Xu]
  by_cases h4:v=4<;>by_cases h5:v=5<;>by_cases hk:4≤p.Kind<;>by_cases hk2:p.Kind≤7<;>simp [h4,h5,hk,hk2]
 unfold Q71;refine TotP.bindE (.of hkn) ?_;refine TotP.cond (fun g=>Qbs fun x=>?_) (fun g=>?_)
 ·have g:¬ _:=Ac (bN g);exact g ⟨x.1,x.2.1⟩
 obtain ⟨gv,gk⟩:=Aa (bP g)
 haveI:Kd p.Kind:=⟨by omega,by omega⟩
 rw [Xu,Wx];refine TotP.cond (fun g=>Qbs fun x=>by have:=Aa g;have:=x.2.2.1;omega) (fun g1=>?_);refine TotP.cond (fun g=>Qbs fun x=>by have:=Aa g;have:=x.2.2.1;omega) (fun g2=>?_);have g1:=Ac g1;have g2:=Ac g2;refine TotP.bindE (Qhj _ _) ?_;refine TotP.cond (fun g=>Qbs fun x=>by have:=x.2.2.2.1;rw [bN g] at this;cases this) (fun g3=>?_)
 have fin:(v=4→p.Code=0∧p.Props = [])→TotP (fun N=>(Z6 N p (Z3h p)).bind fun v12=>cond (!v12) (some (2:Int)) ((X8 N p.Kind p.Props).bind fun v15=>some v15)) (· = Qrw v p):=fun h4=>by
  refine TotP.bind (Q1p p (Z3h p) h.l) (fun b hb=>?_);refine TotP.cond (fun g=>Qbs fun x=>by rw [hb.2 x.2.2.2.2.2] at g;cases g) (fun g=>?_);refine TotP.bindE (Q91 h p.Kind) (.ret ?_);unfold Qrw;rw [Af ⟨gv,gk,by omega,bP g3,h4,hb.1 (bP g)⟩]
 rw [Qa,Qq,Qq,Q4];refine TotP.cond (fun g4=>?_) (fun g4=>fin fun x=>absurd x (Ac g4));have g4:=Aa g4;refine TotP.cond (fun g=>Qbs fun x=>Aa g (x.2.2.2.2.1 g4).1) (fun g5=>?_);refine TotP.cond (fun g=>Qbs fun x=>Aa g (by rw [(x.2.2.2.2.1 g4).2];rfl)) (fun g6=>?_);exact fin fun _=>⟨Decidable.byContradiction fun x=>Ac g5 x,Mi.1 (by have:¬ ¬ _:=Ac g6;omega)⟩
theorem Z6w (v:Int):Tot (fun N=>U2 N v p) (Qrw v p):=by
 refine TotP.tot ?_;unfold U2
 have hr:TotP (fun N=>Jq N v p) (fun b=>b=true↔Qn1 v p):=by
  have no:¬ Qn1 v p→TotP (fun _=>some false) (fun b=>b=true↔Qn1 v p):=fun x => .ret ⟨fun y=>(nomatch y),fun y=>absurd y x⟩;unfold Jq;refine TotP.bindE (.of fun N=>Qed N v) ?_;refine TotP.cond (fun g=>no fun x=>Ac (bN g) x.1) (fun gv=>?_);have gv:=Aa (bP gv);rw [Qd,Qy];refine TotP.cond (fun g=>no fun x=>by have:=Aa g;have:=x.2.1;omega) (fun g1=>?_);refine TotP.cond (fun g=>no fun x=>by have:=Aa g;have:=x.2.1;omega) (fun g2=>?_);have g1:=Ac g1;have g2:=Ac g2
  have tail:(v=4→p.Code=0∧p.Props = [])→p=Z3h p→TotP (fun N=>cond (Q3 .geq p.ID 1) (cond (Q3 .leq p.ID 65535) ((Z1 N p.Kind p.Code).bind fun v17=>some v17) (some false)) (some false)) (fun b=>b=true↔Qn1 v p):=fun h4 hu=>by
   rw [Wx,Xu];refine TotP.cond (fun g3=>?_) (fun g=>no fun x=>Ac g x.2.2.1.1);refine TotP.cond (fun g4=>?_) (fun g=>no fun x=>Ac g x.2.2.1.2);have g3:=Aa g3;have g4:=Aa g4;exact TotP.bindE (Qhe _ _) (.ret ⟨fun y=>⟨gv,by omega,⟨g3,g4⟩,y,h4,hu⟩,fun x=>x.2.2.2.1⟩)
  rw [Qa,Qq,Qy,Q4];refine TotP.cond (fun g4=>?_) (fun g4=>?_)
  ·have g4:=Aa g4;refine TotP.cond (fun g=>?_) (fun g5=>?_)
   ·have nn:¬ Qn1 v p:=fun x=>Aa g (x.2.2.2.2.1 g4).1;exact TotP.bind (Jj p (Z3h p) h.l) (fun b _=>TotP.cond (fun _=>no nn) (fun _=>no nn))
   refine TotP.bind (Jj p (Z3h p) h.l) (fun b hb=>?_);refine TotP.cond (fun gb=>?_) (fun gb=>no fun x=>by rw [hb.2 x.2.2.2.2.2] at gb;cases gb);refine TotP.cond (fun g6=>?_) (fun g=>no fun x=>?_)
   ·have g6:=Ac (bN g6);exact tail (fun _=>⟨Decidable.byContradiction fun x=>Ac g5 x,Mi.1 (by omega)⟩) (hb.1 gb)
   have:=Aa (bP g);rw [(x.2.2.2.2.1 g4).2] at this;exact absurd this (by decide)
  refine TotP.bind (Jj p (Z3h p) h.l) (fun b hb=>?_);refine TotP.cond (fun gb=>?_) (fun gb=>no fun x=>by rw [hb.2 x.2.2.2.2.2] at gb;cases gb);exact tail (fun x=>absurd x (Ac g4)) (hb.1 gb)
 refine TotP.bind hr (fun b hb=>?_);refine TotP.cond (fun g=>Qbs fun x=>by rw [hb.2 x] at g;cases g) (fun g=>?_);have hx:=hb.1 (bP g)
 haveI:Kd p.Kind:=⟨by have:=hx.2.1;omega,by have:=hx.2.1;omega⟩
 refine TotP.bindE (Q6u h (fun x=>(hx.2.2.2.2.1 x).2)) (.ret ?_);unfold Qrw;rw [Af hx]
def Qq9 (k c:Int) (l:List Qb):List UInt8:=if c=0∧l = [] then [] else Qb4 c.toNat 1++(if l = [] then [] else (Qhg k l).1)
noncomputable def Z3p (v:Int) (p:Q1):List UInt8×Int:=if Qrw v p=0 then (Qb4 p.ID.toNat 2++Qq9 p.Kind p.Code p.Props,0) else ([],Qrw v p)
end
end
end Go.Av
namespace Go.Av
noncomputable section
def noP:Q1:=⟨0,false,false,0,0,[],[],false,0,[],false,[],false,[],false,(⟨[],[],0,false,[]⟩:Xn),false,0,[],[],[]⟩
section
variable (p:Int) (t pl:List UInt8) (q id:Int)
end
end
end Go.Av
namespace Go.Av
noncomputable section
structure GP (d:Bool) (q i:Int) (t pl:List UInt8):Prop where
 hq:q=0∨q=1∨q=2
 dup:q=0→d=false
 id0:q=0→i=0
 id1:q≠0→1≤i∧i≤65535
 nm:Q04 t=true
 tl:t.length≤2000
 hpl:pl.length≤2000
section
variable {d r:Bool} {q i:Int} {t pl:List UInt8} (g:GP d q i t pl) {v:Int}
include g
end
end
end Go.Av
namespace Go.Av
noncomputable section
section
variable {R S T A:Type}
theorem TotP.succ {f g:Nat→Option R} {Q:R→Prop} (e:∀ N,f (N+1)=g N) (h:TotP g Q):TotP f Q:=by
 obtain ⟨r,hr,N0,hN⟩:=h;refine ⟨r,hr,N0+1,fun N h=>?_⟩;obtain ⟨M,rfl⟩:∃ M,N=M+1:=⟨N - 1,by omega⟩;rw [e];exact hN M (by omega)
end
theorem szs_app (l:List Q2) (v:Q2):Q2.szs (l ++ [v])=Q2.szs l+v.sz:=by
 induction l with
 | nil=>simp [Q2.szs]
 | cons w l ih=>simp only [Bd,Q2.szs,ih];omega
end
end Go.Av
namespace Go.Av
noncomputable section
section
variable {T:Type}
end
structure Zjf (p:Q1):Prop where
 codes:p.Codes.length≤100000
 filters:p.Filters.length≤100000
 props:p.Props.length≤100000
 wprops:p.Will.Props.length≤100000
def Z6q:Qe:=⟨0,0,[],[],0,false,false,0,[],0,[],0,(⟨0,false,false,0,0,[],[],false,0,[],false,[],false,[],false,(⟨[],[],0,false,[]⟩:Xn),false,0,[],[],[]⟩:Q1),(⟨0,(⟨false,0,false,false,false,0⟩:Q3i),0,0,0,false,0,0,0,[],[]⟩:Qcw),(⟨0,0,[],[]⟩:Yy)⟩
theorem Qbo (e:Qe) (hp:e.Props.length≤100000) (hh:e.Hops.length≤100000) (hk:Qd0 e.Packet) (hv:e.Frame.Values = []):Tot (fun N=>Q0t N e) e:=by
 refine ⟨1,fun N hN=>?_⟩;obtain ⟨M,rfl⟩:∃ M,N=M+1:=⟨N - 1,by omega⟩;show Q0t (M+1) e=_;unfold Q0t;rw [Qbc _ _ hp,Qp5 _ _ hh,Qpq _ _ hk];simp only [Ll];obtain ⟨a0,a1,a2,a3,a4,a5,a6,a7,a8,a9,a10,a11,a12,a13,⟨b0,b1,b2,b3⟩⟩:=e
 simp only at hv
 subst hv;rfl
end
end Go.Av
namespace Go.Av
noncomputable section
section
variable {d r:Bool} {q i:Int} {t pl:List UInt8} (g:GP d q i t pl) {p:Int} (hp:p=1∨p=2)
include g
theorem GP.ack:decide (i≠0)=decide (q≠0):=by
 by_cases h:q=0
 ·rw [h,g.id0 h]
 have:=g.id1 h;rw [Ad h,Ad (by omega)]
include hp
end
section
variable {d r:Bool} {q i:Int} {t pl:List UInt8} (g:GP d q i t pl) {v:Int} (hv:v=4∨v=5)
include g hv
end
end
end Go.Av
namespace Go.Av
noncomputable section
theorem Qvl (n:Nat) (h:n≤268435455):TotP (fun N=>Q4s N (n:Int)) (fun v=>1≤v):=by
 unfold Q4s Q4g;rw [Wx,Xu,Ad (p:=(n:Int)≥0) (by omega),Ad (by omega)];refine TotP.bindE (v:=true) (.of fun _=>rfl) ?_;refine TotP.cond (fun g=>nomatch g) (fun _=>?_);refine Qas (L:=fun N m (q:Int×Int)=>G4 N m q.1 q.2) (fun q=>0≤q.1∧q.1≤268435455∧1≤q.2∧q.2+q.1≤268435456) (fun q=>q.1.toNat) ?_ ((n:Int),1) ⟨by omega,by omega,by omega,by omega⟩
 rintro ⟨s,l⟩ ⟨h1,h2,h3,h4⟩
 simp only at h1 h2 h3 h4
 show Stp _ _ _ (fun N m=>cond (Q3 .geq s 128) _ _);rw [Wx];refine Stp.cond (fun g=>?_) (fun _=>Stp.ret h3);have g:=Aa g
 have e1:wrap .i64 (s.tdiv 128)=s / 128:=by rw [Bk (by omega),w64 _ (by omega)]
 rw [e1,w64 _ (by omega)];exact Stp.go (L:=fun N m (q:Int×Int)=>G4 N m q.1 q.2) (_,_) ⟨⟨by simp only;omega,by simp only;omega,by simp only;omega,by simp only;omega⟩,by simp only;omega⟩
section
variable {d r:Bool} {q i:Int} {t pl:List UInt8} (g:GP d q i t pl) {v:Int} (hv:v=4∨v=5)
include g
end
section
variable {d r:Bool} {q i:Int} {t pl:List UInt8} (g:GP d q i t pl) {p:Int} (hp:p=1∨p=2)
include g hp
end
end
end Go.Av
namespace Go.Av
noncomputable section
end
end Go.Av
namespace Go.Av
noncomputable section
def sh1 (e:Qe):Qe:=⟨e.Proto,e.Kind,[],[],0,false,false,0,[],0,[],0,e.Packet,(⟨0,(⟨false,0,false,false,false,0⟩:Q3i),0,0,0,false,0,0,0,[],[]⟩:Qcw),(⟨0,0,[],[]⟩:Yy)⟩
def sh3 (e:Qe):Qe:=⟨e.Proto,e.Kind,[],[],0,false,false,0,[],0,e.Hops,0,(⟨0,false,false,0,0,[],[],false,0,[],false,[],false,[],false,(⟨[],[],0,false,[]⟩:Xn),false,0,[],[],[]⟩:Q1),e.Msg,(⟨0,0,[],[]⟩:Yy)⟩
def sh4 (e:Qe):Qe:=⟨e.Proto,e.Kind,[],[],0,false,false,0,[],0,[],0,(⟨0,false,false,0,0,[],[],false,0,[],false,[],false,[],false,(⟨[],[],0,false,[]⟩:Xn),false,0,[],[],[]⟩:Q1),(⟨0,(⟨false,0,false,false,false,0⟩:Q3i),0,0,0,false,0,0,0,[],[]⟩:Qcw),e.Frame⟩
structure Oth (e:Qe) (c:Int):Prop where
 a:e.Proto=1∨e.Proto=2→(c=0→sh1 e=e)∧(sh1 e≠e→c=2)∧(e.Packet.Kind=0→c≠0)
 b:e.Proto=3→(c=0→sh3 e=e)∧(sh3 e≠e→c=2)
 d:e.Proto=4→(c=0→sh4 e=e)∧(sh4 e≠e→c=2)
 f:c=0→e.Proto=1∨e.Proto=2∨e.Proto=3∨e.Proto=4
def cq (e:Qe):Bool:=cond (decide (e.QoS=1)) true (decide (e.QoS=2))
structure Ck (e:Qe) (l:Ua) (t b r:Bool) (v c:Int):Prop where
 zero:c=0→r=true
 pub0:e.Kind=1→c=0→Q04 e.Topic=true∧v=0∧PubT e (cq e) t b∧(e.Payload.length:Int)≤l.MaxPacket
 pub1:e.Kind=1→r=true→Q04 e.Topic=true→v=0→PubT e (cq e) t b→(e.Payload.length:Int)≤l.MaxPacket→c=0
 pub2:e.Kind=1→r=true→Q04 e.Topic=true→¬ PubT e (cq e) t b→c=2
 oth:e.Kind=2→r=true→Oth e c
 no:c=0→e.Kind=1∨e.Kind=2
end
end Go.Av
namespace Go.Av
noncomputable section
def zPk:Q1:=⟨0,false,false,0,0,[],[],false,0,[],false,[],false,[],false,(⟨[],[],0,false,[]⟩:Xn),false,0,[],[],[]⟩
def zMk:Qcw:=⟨0,(⟨false,0,false,false,false,0⟩:Q3i),0,0,0,false,0,0,0,[],[]⟩
def zFk:Yy:=⟨0,0,[],[]⟩
def Ztx (h:Q3f):Bool:=decide (0≤h.Radius∧h.Radius≤3∧1≤h.Node.length∧h.Node.length≤32)
def Z86 (l:List Q3f):Bool:=decide (l.length≤4)&&l.all Ztx
section
variable (l:List Q3f) (hl:l.length≤30) (hn:∀ x∈l,x.Node.length≤300)
include hl hn
end
def Z1p (s:List UInt8):Bool:=decide (s.length=2)&&Q04 s
def Zrm (e:Qe):Bool:=decide (0≤e.Type'∧e.Type'≤2)&&((!(decide (e.Type'=2))||Z1p e.Topic)&&Z86 e.Hops)
open Classical in
open Classical in
end
end Go.Av
namespace Go.Av
noncomputable section
section
variable {B:Nat} {c:Q2v} (h:Cd B c) (hB:B≤1000) (k:c.m.Type'=12)
include h hB k
end
section
variable {m:Qcw} (h:OkM m) (k:m.Type'=12)
include h k
end
end
end Go.Av
namespace Go.Av
noncomputable section
end
end Go.Av
namespace Go.Av
noncomputable section
end
end Go.Av
namespace Go.Av
noncomputable section
theorem Z5a:Qd0 zPk:=by
 constructor<;>first | exact Lm _ | decide | (intro x hx;cases hx) | (constructor<;>first | exact Lm _ | (intro x hx;cases hx))
def there (p:Int) (e:Qe) (d:Bool) (ty:Int):Qe:=⟨p,1,e.Topic,e.Payload,e.QoS,e.Retain,d,e.ID,[],ty,[],0,zPk,zMk,zFk⟩
theorem LE.there {e:Qe} (h:LE e) (p:Int) (d:Bool) (ty:Int):LE (there p e d ty):=
 ⟨h.topic,h.payload,⟨Lm _,fun x hx=>nomatch hx⟩,Z5a,⟨Lm _,(fun x hx=>nomatch hx),⟨Lm _,Lm _⟩⟩,⟨(fun x hx=>nomatch hx),(by show Q2.szs []<_;decide),(by show Q2.wgts []<_;decide)⟩⟩
theorem LE.szs {e:Qe} (h:LE e):Q2.szs e.Frame.Values<700000000:=Nat.lt_trans h.fb.sz (by decide)
open Classical in
end
end Go.Av
namespace Go.Av
noncomputable section
end
end Go.Av
namespace Go.Av
noncomputable section
section
variable (l:List Q3f)
end
def snB (e:Qe):Bool:=cond (decide (e.Proto≠3)) (decide (e.Type'=0∧e.Hops.length=0)) (Zrm e)
open Classical in
section
variable {N:Nat} {e:Qe} {b:Bool} {v:Int} (hn:Qr N e.Topic=some (Q04 e.Topic)) (hs:Q11 N e=some (snB e)) (hb:Yt N e=some b) (hv:X2 N 3 e.Props=some v)
end
end
end Go.Av
namespace Go.Av
noncomputable section
open Classical in
end
end Go.Av
namespace Go.Av
noncomputable section
theorem TotP.and {R:Type} {f:Nat→Option R} {P Q:R→Prop} (h1:TotP f P) (h2:TotP f Q):TotP f (fun r=>P r∧Q r):=by
 obtain ⟨a,pa,N1,ha⟩:=h1;obtain ⟨b,qb,N2,hb⟩:=h2;have e:=(ha (max N1 N2) (by omega)).symm.trans (hb (max N1 N2) (by omega));cases e;exact ⟨a,⟨pa,qb⟩,N1,ha⟩
end
end Go.Av
namespace Go.Av
noncomputable section
structure ToR (r:Qe×Int):Prop where
 bad:r.2≠0→r.1=Z6q
 p:r.1.Props.length≤100
 pp:r.1.Packet.Props.length≤100
 pf:r.1.Packet.Filters.length≤100
 pc:r.1.Packet.Codes.length≤100
theorem ToR.zero (c:Int):ToR (Z6q,c):=⟨fun _=>rfl,Lm _,Lm _,Lm _,Lm _⟩
theorem Z56:Qd0 (⟨0,false,false,0,0,[],[],false,0,[],false,[],false,[],false,(⟨[],[],0,false,[]⟩:Xn),false,0,[],[],[]⟩:Q1):=by
 constructor<;>first | exact Lm _ | decide | (intro x hx;cases hx) | (constructor<;>first | exact Lm _ | (intro x hx;cases hx))
theorem Z1o (M:Nat):Q10 (M+200)=some true:=by kernel_rfl
section
variable (p q:Q1) (hq:TotP (fun N=>Qi N p q) (· = true))
include hq
variable (r:Qe×Int) (hr:ToR r)
include hr
end
end
end Go.Av
namespace Go.Av
noncomputable section
open Go.Proofs
set_option maxRecDepth 100000
end
end Go.Av
namespace Go.Av
noncomputable section
open Go.Proofs
set_option maxRecDepth 100000
theorem eqI (x:Int):Q3 .eql x x=true:=by simp [Q3]
end
end Go.Av
namespace Go.Av
noncomputable section
open Go.Proofs
set_option maxRecDepth 100000
end
end Go.Av
namespace Go.Av
noncomputable section
open Go.Proofs
set_option maxRecDepth 100000
end
end Go.Av
namespace Go.Av
noncomputable section
def zP:Q1:=⟨0,false,false,0,0,[],[],false,0,[],false,[],false,[],false,(⟨[],[],0,false,[]⟩:Xn),false,0,[],[],[]⟩
def zM:Qcw:=⟨0,(⟨false,0,false,false,false,0⟩:Q3i),0,0,0,false,0,0,0,[],[]⟩
def zF:Yy:=⟨0,0,[],[]⟩
def zE:Qe:=⟨0,0,[],[],0,false,false,0,[],0,[],0,zP,zM,zF⟩
structure E4 (e:Qe):Prop where
 eq:e=⟨4,1,e.Topic,e.Payload,e.QoS,e.Retain,e.Dup,e.ID,[],0,[],e.Channel,zP,zM,zF⟩
 qos:0≤e.QoS∧e.QoS≤2
 id:0≤e.ID∧e.ID≤65535
 ch:0≤e.Channel∧e.Channel≤65535
theorem Qp1:Z03 zP:=⟨Lm _,Lm _,Lm _,Lm _⟩
def vn (k n:Int):Q2:=⟨k,n,[],[]⟩
def vt (k:Int) (s:List UInt8):Q2:=⟨k,0,s,[]⟩
def vf (b:Bool):Q2:=vn 2 (if b then 1 else 0)
def vl (k:Int) (l:List Q2):Q2:=⟨k,0,[],l⟩
def vs (n:Int) (v:Q2):Q2:=vl 25 [vn 6 n,v]
def frE (e:Qe):Yy:=⟨0,e.Channel,[],[vs 20 (vl 22 [vn 5 0,vn 5 e.ID,vt 19 (Qb4 e.ID.toNat 2),vn 5 0,vf (decide (e.QoS=0))]),
 vs 114 (vl 23 [vt 21 [120,45,113,111,115],vn 3 e.QoS,vt 21 [120,45,114,101,116,97,105,110],vf e.Retain,vt 21 [120,45,100,117,112],vf e.Dup]),
 vs 115 (vl 22 [vn 1 0,vn 1 0,vt 20 e.Topic]),vs 117 (vt 19 e.Payload)]⟩
end
end Go.Av
namespace Go.Av
noncomputable section
section
variable {T:Type} {l:List T}
end
def MsgR (f:Yy) (r:Qe×Bool):Prop:=r.2=true→E4 r.1∧Tot (fun N=>Q1l N r.1) 0∧frE r.1=f
theorem MsgR.no {f:Yy} {e:Qe}:MsgR f (e,false):=fun h=>nomatch h
inductive NoFl:Q2→Prop
 | mk (v:Q2) (h:v.Kind≠11∧v.Kind≠12) (hi:∀ x∈v.Items,NoFl x):NoFl v
end
end Go.Av
namespace Go.Av
noncomputable section
theorem E4.oks {e:Qe} (h:E4 e):Z71 e:=by
 rw [h.eq];exact ⟨Lm _,Lm _,Qp1,by show Q2.szs []<700000000;decide⟩
theorem LE.oks {e:Qe} (h:LE e):Z71 e:=by
 have h1:=ml2;have h2:e.Hops.length≤30:=h.dg.hops;have h3:=h.props.len;exact ⟨by omega,by omega,h.pk.l,Nat.lt_trans h.fb.sz (by decide)⟩
end
abbrev Ar := @TotP.tot
abbrev At := @TotP.bind
abbrev Au := @TotP.bindE
abbrev Aw := @TotP.cond
abbrev Ax := @TotP.chk
abbrev Ay := @TotP.idx
abbrev Az := @Stp.fin
abbrev AA := @Stp.ret
abbrev AB := @Stp.go
abbrev AC := @Stp.bind
abbrev AD := @Stp.idx
abbrev AE := @Stp.cond
abbrev AF := @Stp.chk
end Go.Av
