/- Part of the proof of CrossTexts: for every input the law returns true; no condition. -/
import Derived.Test.YtaokaobiihpkbaaGreatDoorAvOwn
import Derived.Test.YtaokaobiihpkbaaGreatDoorRound
import Derived.Test.YtaokaobiihpkbaaGreatDoorLiftF3
import Derived.Test.YtaokaobiihpkbaaGreatDoorPlainb
import Derived.Test.YtaokaobiihpkbaaGreatDoorPlain
import Derived.Test.YtaokaobiihpkbaaGreatDoorRegS
set_option linter.all false
open Go.IntKind (wrap)
namespace Go.Av
noncomputable section
section
variable {R A S T:Type}
def Tot (f:Nat→Option R) (r:R):Prop:=∃ N0,∀ N,N0≤N→f N=some r
def TotP (f:Nat→Option R) (Q:R→Prop):Prop:=∃ r,Q r∧Tot f r
theorem Tot.of {f:Nat→Option R} {r:R} (h:∀ N,f N=some r):Tot f r:=⟨0,fun N _=>h N⟩
theorem Tot.ret (r:R):Tot (fun _=>some r) r := .of fun _=>rfl
theorem Tot.bind {f:Nat→Option A} {g:Nat→A→Option R} {v:A} {r:R} (h1:Tot f v) (h2:Tot (fun N=>g N v) r):Tot (fun N=>(f N).bind (g N)) r:=by
 obtain ⟨a,ha⟩:=h1;obtain ⟨b,hb⟩:=h2;exact ⟨max a b,fun N hN=>by show (f N).bind (g N)=_;rw [ha N (by omega)];exact hb N (by omega)⟩
theorem TotP.of {f:Nat→Option R} {r:R} {Q:R→Prop} (hq:Q r) (h:Tot f r):TotP f Q:=⟨r,hq,h⟩
theorem TotP.ret {r:R} {Q:R→Prop} (h:Q r):TotP (fun _=>some r) Q:=⟨r,h,.ret r⟩
theorem TotP.mono {f:Nat→Option R} {Q Q':R→Prop} (h:TotP f Q) (hq:∀ r,Q r→Q' r):TotP f Q':=by
 obtain ⟨r,h1,h2⟩:=h;exact ⟨r,hq r h1,h2⟩
theorem TotP.tot {f:Nat→Option R} {r:R} (h:TotP f (· = r)):Tot f r:=by obtain ⟨x,rfl,h2⟩:=h;exact h2
theorem TotP.bind {f:Nat→Option A} {g:Nat→A→Option R} {V:A→Prop} {Q:R→Prop} (h1:TotP f V) (h2:∀ v,V v→TotP (fun N=>g N v) Q):TotP (fun N=>(f N).bind (g N)) Q:=by
 obtain ⟨v,hv,t⟩:=h1;obtain ⟨r,hr,u⟩:=h2 v hv;exact ⟨r,hr,t.bind u⟩
theorem TotP.bindE {f:Nat→Option A} {g:Nat→A→Option R} {v:A} {Q:R→Prop} (h1:Tot f v) (h2:TotP (fun N=>g N v) Q):TotP (fun N=>(f N).bind (g N)) Q:=by
 obtain ⟨r,hr,u⟩:=h2;exact ⟨r,hr,h1.bind u⟩
theorem TotP.cond {b:Bool} {f g:Nat→Option R} {Q:R→Prop} (h1:b=true→TotP f Q) (h2:b=false→TotP g Q):TotP (fun N=>cond b (f N) (g N)) Q:=by
 cases b
 ·exact h2 rfl
 exact h1 rfl
theorem TotP.chk {b:Bool} {f:Nat→Option R} {Q:R→Prop} (hb:b=true) (h:TotP f Q):TotP (fun N=>_root_.cond b (f N) none) Q:=by subst hb;exact h
theorem TotP.idx {l:List T} {i:Int} {y:T} {g:Nat→T→Option R} {Q:R→Prop} (h:idx l i=some y) (h2:TotP (fun N=>g N y) Q):TotP (fun N=>(Go.Av.idx l i).bind (g N)) Q:=
 .bindE (.of fun _=>h) h2
theorem TotP.optC {o:Option T} {f:Nat→T→Option R} {z:Nat→Option R} {Q:R→Prop} (h1:∀ v,o=some v→TotP (fun N=>f N v) Q) (h2:o=none→TotP z Q):TotP (fun N=>Go.Av.optC o (f N) (z N)) Q:=by
 cases o with
 | none=>exact h2 rfl
 | some v=>exact h1 v rfl
def Stp (L:Nat→Nat→S→Option R) (P:S→Prop) (Q:R→Prop) (f:Nat→Nat→Option R):Prop:=
 (∃ r N0,Q r∧∀ N n,N0≤N→f N n=some r)∨∃ s N0,P s∧∀ N n,N0≤N→f N n=L N n s
section
variable {L:Nat→Nat→S→Option R} {P:S→Prop} {Q:R→Prop}
theorem Stp.fin {f:Nat→Option R} (h:TotP f Q):Stp L P Q (fun N _=>f N):=by
 obtain ⟨r,h1,N0,h2⟩:=h;exact .inl ⟨r,N0,h1,fun N _ hN=>h2 N hN⟩
theorem Stp.ret {r:R} (h:Q r):Stp L P Q (fun _ _=>some r) := .inl ⟨r,0,h,fun _ _ _=>rfl⟩
theorem Stp.go (s:S) (h:P s):Stp L P Q (fun N n=>L N n s) := .inr ⟨s,0,h,fun _ _ _=>rfl⟩
theorem Stp.bind {f:Nat→Option A} {g:Nat→Nat→A→Option R} {V:A→Prop} (h1:TotP f V) (h2:∀ v,V v→Stp L P Q (fun N n=>g N n v)):Stp L P Q (fun N n=>(f N).bind (g N n)):=by
 obtain ⟨v,hv,a,ha⟩:=h1
 rcases h2 v hv with ⟨r,b,hr,hb⟩ | ⟨s,b,hs,hb⟩
 ·exact .inl ⟨r,max a b,hr,fun N n hN=>by show (f N).bind _=_;rw [ha N (by omega)];exact hb N n (by omega)⟩
 exact .inr ⟨s,max a b,hs,fun N n hN=>by show (f N).bind _=_;rw [ha N (by omega)];exact hb N n (by omega)⟩
theorem Stp.idx {l:List T} {i:Int} {y:T} {g:Nat→Nat→T→Option R} (h:idx l i=some y) (h2:Stp L P Q (fun N n=>g N n y)):Stp L P Q (fun N n=>(Go.Av.idx l i).bind (g N n)):=
 .bind (f:=fun _=>Go.Av.idx l i) (V:=(· = y)) ⟨y,rfl,.of fun _=>h⟩ (fun v hv=>by subst hv;exact h2)
theorem Stp.cond {b:Bool} {f g:Nat→Nat→Option R} (h1:b=true→Stp L P Q f) (h2:b=false→Stp L P Q g):Stp L P Q (fun N n=>cond b (f N n) (g N n)):=by
 cases b
 ·exact h2 rfl
 exact h1 rfl
theorem Stp.chk {b:Bool} {f:Nat→Nat→Option R} (hb:b=true) (h:Stp L P Q f):Stp L P Q (fun N n=>_root_.cond b (f N n) none):=by subst hb;exact h
theorem Q60 (inv:S→Prop) (μ:S→Nat) (Z5:∀ s,inv s→Stp L (fun s'=>inv s' ∧ μ s' < μ s) Q (fun N n=>L N (n+1) s)) (s:S) (h:inv s):TotP (fun N=>L N N s) Q:=by
 have key:∀ (m:Nat) (s:S),μ s<m→inv s→∃ r N0,Q r∧∀ N n,N0≤N→N0≤n→L N n s=some r:=by
  intro m
  induction m with
  | zero=>intro s h;omega
  | succ m ih=>
   intro s hm hi
   rcases Z5 s hi with ⟨r,N0,hr,hL⟩ | ⟨s',N0,⟨h1,h2⟩,hL⟩
   ·refine ⟨r,N0+1,hr,fun N n h1 h2=>?_⟩;obtain ⟨k,rfl⟩:∃ k,n=k+1:=⟨n - 1,by omega⟩;exact hL N k (by omega)
   obtain ⟨r,M0,hr,hM⟩:=ih s' (by omega) h1;refine ⟨r,max N0 M0+1,hr,fun N n h1 h2=>?_⟩;obtain ⟨k,rfl⟩:∃ k,n=k+1:=⟨n - 1,by omega⟩;exact (hL N k (by omega)).trans (hM N k (by omega) (by omega))
 obtain ⟨r,N0,hr,hL⟩:=key (μ s+1) s (by omega) h;exact ⟨r,hr,N0,fun N hN=>hL N N hN hN⟩
end
theorem Q35 {L:Nat→Nat→Int→Option R} {Q:R→Prop} (m:Nat) (J:Nat→Prop) (Z5:∀ i,i<m→J i→Stp L (fun s=>s=((i+1:Nat):Int)∧J (i+1)) Q (fun N n=>L N (n+1) (i:Int)))
  (fin:J m→Stp L (fun _=>False) Q (fun N n=>L N (n+1) (m:Int))) (h0:J 0):TotP (fun N=>L N N 0) Q:=by
 refine Q60 (S:=Int) (fun s=>∃ i:Nat,s=(i:Int)∧i≤m∧J i) (fun s=>m - s.toNat) ?_ 0 ⟨0,rfl,Mj _,h0⟩
 rintro s ⟨i,rfl,hi,hj⟩
 by_cases h:i<m
 ·rcases Z5 i h hj with ⟨r,N0,hr,hL⟩ | ⟨s',N0,⟨rfl,h2⟩,hL⟩
  ·exact .inl ⟨r,N0,hr,hL⟩
  exact .inr ⟨_,N0,⟨⟨i+1,rfl,h,h2⟩,by simp only [Lx];omega⟩,hL⟩
 have:i=m:=by omega
 subst this
 rcases fin hj with ⟨r,N0,hr,hL⟩ | ⟨s',N0,h2,hL⟩
 ·exact .inl ⟨r,N0,hr,hL⟩
 exact h2.elim
end
theorem Ql (x y:Int):Q5 .lss x y=decide (x<y):=rfl
theorem Vd (x y:Int):Q5 .leq x y=decide (x≤y):=rfl
theorem Wx (x y:Int):Q5 .gtr x y=decide (x>y):=rfl
theorem Us (x y:Int):Q5 .geq x y=decide (x≥y):=rfl
theorem Ym (x y:Int):Q5 .eql x y=decide (x=y):=by unfold Q5;by_cases h:x=y<;>simp [h]
theorem X4 (x y:Int):Q5 .neq x y=decide (x≠y):=by unfold Q5;by_cases h:x=y<;>simp [h]
theorem w64 (x:Int) (h : -9223372036854775808≤x∧x≤9223372036854775807):wrap .i64 x=x:=IntWalk.i64_in x h
theorem Qr {T:Type} {l:List T} {i:Nat} (h:i<l.length):idx l (i:Int)=some l[i]:=Lc h
theorem Q3n:maxLen≤9223372036854775807:=by unfold maxLen;decide
end
end Go.Av
namespace Go.Av
noncomputable section
def at8 (s:List UInt8) (i:Nat):Nat:=(s.getD i 0).toNat
theorem Q7u (s:List UInt8) (i:Nat):at8 s i<256:=Dh _
theorem Q7w {s:List UInt8} {i:Nat} (h:i<s.length):at8 s i=(s[i]).toNat:=by simp [at8,h]
def goes (s:List UInt8) (i:Nat):Prop:=i<s.length∧128≤at8 s i∧at8 s i<192
instance (s:List UInt8) (i:Nat):Decidable (goes s i):=inferInstanceAs (Decidable (_∧_))
def Q9s (c:Nat):Prop:=¬ (55296≤c∧c≤57343)∧c≤1114111
instance (c:Nat):Decidable (Q9s c):=inferInstanceAs (Decidable (_∧_))
def Q5v (s:List UInt8) (i:Nat):Nat×Nat:=
 if at8 s i<128 then (at8 s i,1)
 else if 192≤at8 s i∧at8 s i<224∧goes s (i+1)∧128≤64 * (at8 s i - 192)+(at8 s (i+1) - 128) then (64 * (at8 s i - 192)+(at8 s (i+1) - 128),2)
 else if 224≤at8 s i∧at8 s i<240∧goes s (i+1)∧goes s (i+2)∧2048≤64 * (64 * (at8 s i - 224)+(at8 s (i+1) - 128))+(at8 s (i+2) - 128)∧Q9s (64 * (64 * (at8 s i - 224)+(at8 s (i+1) - 128))+(at8 s (i+2) - 128)) then
  (64 * (64 * (at8 s i - 224)+(at8 s (i+1) - 128))+(at8 s (i+2) - 128),3)
 else if 240≤at8 s i∧at8 s i<248∧goes s (i+1)∧goes s (i+2)∧goes s (i+3)∧65536≤64 * (64 * (64 * (at8 s i - 240)+(at8 s (i+1) - 128))+(at8 s (i+2) - 128))+(at8 s (i+3) - 128) ∧
   Q9s (64 * (64 * (64 * (at8 s i - 240)+(at8 s (i+1) - 128))+(at8 s (i+2) - 128))+(at8 s (i+3) - 128)) then
  (64 * (64 * (64 * (at8 s i - 240)+(at8 s (i+1) - 128))+(at8 s (i+2) - 128))+(at8 s (i+3) - 128),4)
 else (65533,1)
theorem Qi1 (c:Nat):Utf8.valid (c:Int)=true↔Q9s c:=by
 unfold Utf8.valid Q9s;simp only [Lb,No,Ny,Ag,An];omega
theorem Qta (a b c d:Nat) (G1 G2 G3:Prop) [Decidable G1] [Decidable G2] [Decidable G3] (h0:a<256) (q1:G1→128≤b∧b<192) (q2:G2→128≤c∧c<192) (q3:G3→128≤d∧d<192) :
  (if a<128 then (a,1)
   else if (a / 32 == 6&&decide G1)=true then (if a % 32 * 64+b % 64≥128 then (a % 32 * 64+b % 64,2) else (65533,1))
   else if (a / 16 == 14&&decide G1&&decide G2)=true then (if (decide (a % 16 * 4096+b % 64 * 64+c % 64≥2048)&&Utf8.valid ((a % 16 * 4096+b % 64 * 64+c % 64:Nat):Int))=true then (a % 16 * 4096+b % 64 * 64+c % 64,3) else (65533,1))
   else if (a / 8 == 30&&decide G1&&decide G2&&decide G3)=true then (if (decide (a % 8 * 262144+b % 64 * 4096+c % 64 * 64+d % 64≥65536)&&Utf8.valid ((a % 8 * 262144+b % 64 * 4096+c % 64 * 64+d % 64:Nat):Int))=true then (a % 8 * 262144+b % 64 * 4096+c % 64 * 64+d % 64,4) else (65533,1))
   else (65533,1)) =
  (if a<128 then (a,1)
   else if 192≤a∧a<224∧G1∧128≤64 * (a - 192)+(b - 128) then (64 * (a - 192)+(b - 128),2)
   else if 224≤a∧a<240∧G1∧G2∧2048≤64 * (64 * (a - 224)+(b - 128))+(c - 128)∧Q9s (64 * (64 * (a - 224)+(b - 128))+(c - 128)) then (64 * (64 * (a - 224)+(b - 128))+(c - 128),3)
   else if 240≤a∧a<248∧G1∧G2∧G3∧65536≤64 * (64 * (64 * (a - 240)+(b - 128))+(c - 128))+(d - 128)∧Q9s (64 * (64 * (64 * (a - 240)+(b - 128))+(c - 128))+(d - 128)) then
    (64 * (64 * (64 * (a - 240)+(b - 128))+(c - 128))+(d - 128),4)
   else (65533,1)):=by
 simp only [Lb,Ag,Aj,Qi1,ge_iff_le];have e2:∀ x,Q9s x=(¬ (55296≤x∧x≤57343)∧x≤1114111):=fun x=>rfl
 by_cases c1:a<128
 ·rw [Af c1,Af c1]
 rw [Ae c1,Ae c1]
 by_cases c2:a<192
 ·rw [Ae (by omega),Ae (by omega),Ae (by omega),Ae (by omega),Ae (by omega),Ae (by omega)]
 by_cases c3:a<224
 ·by_cases g1:G1
  ·have:=q1 g1
   have e:a % 32 * 64+b % 64=64 * (a - 192)+(b - 128):=by omega
   rw [Af ⟨by omega,g1⟩,e]
   by_cases c4:128≤64 * (a - 192)+(b - 128)
   ·rw [Af c4,Af ⟨by omega,c3,g1,c4⟩]
   rw [Ae c4,Ae (fun h=>c4 h.2.2.2),Ae (by omega),Ae (by omega)]
  rw [Ae (fun h=>g1 h.2),Ae (by omega),Ae (by omega),Ae (fun h=>g1 h.2.2.1),Ae (by omega),Ae (by omega)]
 rw [Ae (by omega),Ae (c:=192≤a∧_) (by omega)]
 by_cases c5:a<240
 ·by_cases g:G1∧G2
  ·have:=q1 g.1;have:=q2 g.2
   have e:a % 16 * 4096+b % 64 * 64+c % 64=64 * (64 * (a - 224)+(b - 128))+(c - 128):=by omega
   rw [Af ⟨⟨by omega,g.1⟩,g.2⟩,e]
   by_cases c4:2048≤64 * (64 * (a - 224)+(b - 128))+(c - 128)∧Q9s (64 * (64 * (a - 224)+(b - 128))+(c - 128))
   ·rw [Af c4,Af ⟨by omega,c5,g.1,g.2,c4⟩]
   rw [Ae c4,Ae (fun h=>c4 h.2.2.2.2),Ae (by omega)]
  rw [Ae (fun h=>g ⟨h.1.2,h.2⟩),Ae (by omega),Ae (fun h=>g ⟨h.2.2.1,h.2.2.2.1⟩),Ae (by omega)]
 rw [Ae (by omega),Ae (c:=224≤a∧_) (by omega)]
 by_cases c6:a<248
 ·by_cases g:G1∧G2∧G3
  ·have:=q1 g.1;have:=q2 g.2.1;have:=q3 g.2.2
   have e:a % 8 * 262144+b % 64 * 4096+c % 64 * 64+d % 64=64 * (64 * (64 * (a - 240)+(b - 128))+(c - 128))+(d - 128):=by omega
   rw [Af ⟨⟨⟨by omega,g.1⟩,g.2.1⟩,g.2.2⟩,e]
   by_cases c4:65536≤64 * (64 * (64 * (a - 240)+(b - 128))+(c - 128))+(d - 128)∧Q9s (64 * (64 * (64 * (a - 240)+(b - 128))+(c - 128))+(d - 128))
   ·rw [Af c4,Af ⟨by omega,c6,g.1,g.2.1,g.2.2,c4⟩]
   rw [Ae c4,Ae (fun h=>c4 h.2.2.2.2.2)]
  rw [Ae (fun h=>g ⟨h.1.1.2,h.1.2,h.2⟩),Ae (fun h=>g ⟨h.2.2.1,h.2.2.2.1,h.2.2.2.2.1⟩)]
 rw [Ae (by omega),Ae (by omega)]
theorem Qxw (s:List UInt8) (j:Nat):(decide (j<s.length)&&(at8 s j / 64 == 2))=decide (goes s j):=by
 have hk:=Q7u s j
 by_cases hg:goes s j
 ·have h4:at8 s j / 64=2:=by have:=hg.2;omega
  simp [hg,hg.1,h4]
 simp only [hg,decide_false,Cc,An]
 by_cases hl:j<s.length
 ·right;simp only [beq_eq_false_iff_ne,ne_eq]
  intro h4;exact hg ⟨hl,by omega,by omega⟩
 exact .inl hl
theorem Qm7 (s:List UInt8) (i:Nat):Qap s i=Q5v s i:=by
 have u:∀ j,(s.getD j 0).toNat=at8 s j:=fun _=>rfl;have:=Qta (at8 s i) (at8 s (i+1)) (at8 s (i+2)) (at8 s (i+3)) (goes s (i+1)) (goes s (i+2)) (goes s (i+3)) (Q7u _ _) (fun h=>h.2) (fun h=>h.2) (fun h=>h.2);unfold Q5v;rw [← this];unfold Qap;simp only [Np,u,Qxw];rfl
theorem Qm2 (s:List UInt8) (i:Nat) (h:i<s.length):1≤(Q5v s i).2∧i+(Q5v s i).2≤s.length∧((Q5v s i).1<128↔at8 s i<128)∧(at8 s i<128→(Q5v s i).1=at8 s i∧(Q5v s i).2=1) ∧
  (∀ k,1≤k→k<(Q5v s i).2→128≤at8 s (i+k))∧Q9s (Q5v s i).1:=by
 have h0:=Q7u s i;unfold Q5v;split
 ·refine ⟨by simp,by simp;omega,by simp,fun _=>⟨rfl,rfl⟩,fun k h1 h2=>by simp at h2;omega,by unfold Q9s;simp;omega⟩
 split
 ·rename_i h1 h2;obtain ⟨_,_,g1,h3⟩:=h2;refine ⟨by simp,by simp;have:=g1.1;omega,by simp;omega,fun h=>by omega,fun k h4 h5=>?_,by unfold Q9s;simp only;have:=g1.2;omega⟩
  have:k=1:=by simp at h5;omega
  subst this;exact g1.2.1
 split
 ·rename_i h1 h2 h3;obtain ⟨_,_,g1,g2,h3,h6⟩:=h3;refine ⟨by simp,by simp;have:=g2.1;omega,by simp;omega,fun h=>by omega,fun k h4 h5=>?_,h6⟩
  have:k=1∨k=2:=by simp at h5;omega
  rcases this with rfl | rfl
  ·exact g1.2.1
  exact g2.2.1
 split
 ·rename_i h1 h2 h3 h4;obtain ⟨_,_,g1,g2,g3,h3,h6⟩:=h4;refine ⟨by simp,by simp;have:=g3.1;omega,by simp;omega,fun h=>by omega,fun k h4 h5=>?_,h6⟩
  have:k=1∨k=2∨k=3:=by simp at h5;omega
  rcases this with rfl | rfl | rfl
  ·exact g1.2.1
  ·exact g2.2.1
  exact g3.2.1
 rename_i h1 h2 h3 h4;exact ⟨by simp,by simp;omega,by simp;omega,fun h=>by omega,fun k h4 h5=>by simp at h5;omega,by unfold Q9s;simp⟩
def Qox (s:List UInt8) (i:Nat):Prop:=Q5v s i=(65533,1)
instance (s:List UInt8) (i:Nat):Decidable (Qox s i):=inferInstanceAs (Decidable (_=_))
def Qjp (s:List UInt8) (pos:Nat):Option Nat:=
 if h:pos<s.length then (if (Q5v s pos).1=0∨Qox s pos then some pos else Qjp s (pos+(Q5v s pos).2)) else none
termination_by s.length - pos
decreasing_by have:=(Qm2 s pos h).1;omega
end
end Go.Av
namespace Go.Av
noncomputable section
open Go.Proofs
theorem Qvc {b:UInt8} {n:Nat} (h:b.toNat=n) (hn:n<256):b=UInt8.ofNat n:=by
 apply De.1;rw [h];simp [UInt8.toNat_ofNat];omega
theorem Qrm {s:List UInt8} {i:Nat} (hi:i<s.length) (hc:(Q5v s i).1=65533):(3≤(s.drop i).length∧(s.drop i).take 3 = [239,191,189])↔¬ Qox s i:=by
 constructor
 ·rintro ⟨h1,h2⟩ hn
  have hl:i+2<s.length:=by simp at h1;omega
  have g:∀ k,k<3→s[i+k]? = ([239,191,189]:List UInt8)[k]? := by
   intro k hk;rw [← h2,Mb,Af hk,Mc]
  have a0:at8 s i=239:=by have:=g 0 (by omega);simp at this;simp [at8,List.getD_eq_getElem?_getD,this]
  have a1:at8 s (i+1)=191:=by have:=g 1 (by omega);simp at this;simp [at8,List.getD_eq_getElem?_getD,this]
  have a2:at8 s (i+2)=189:=by have:=g 2 (by omega);simp at this;simp [at8,List.getD_eq_getElem?_getD,this]
  have g1:goes s (i+1):=⟨by omega,by omega,by omega⟩;have g2:goes s (i+2):=⟨by omega,by omega,by omega⟩;unfold Qox Q5v at hn;rw [a0,a1,a2] at hn;simp [g1,g2,Q9s] at hn
 intro hn;have h0:=Q7u s i;unfold Qox at hn;unfold Q5v at hn hc;split at hn
 ·rename_i h1;rw [Af h1] at hc;simp at hc;omega
 rename_i h1;rw [Ae h1] at hc;split at hn
 ·rename_i h2;rw [Af h2] at hc;obtain ⟨_,_,g1,_⟩:=h2;have:=g1.2;simp at hc;omega
 rename_i h2;rw [Ae h2] at hc;split at hn
 ·rename_i h3;rw [Af h3] at hc;obtain ⟨_,_,g1,g2,_⟩:=h3;have b1:=g1.2;have b2:=g2.2;have l2:=g2.1
  simp only at hc
  have a0:at8 s i=239:=by omega
  have a1:at8 s (i+1)=191:=by omega
  have a2:at8 s (i+2)=189:=by omega
  rw [Q7w (by omega)] at a0 a1 a2;refine ⟨by simp;omega,?_⟩;apply Mp;intro k;rw [Mb]
  by_cases hk:k<3
  ·rw [Af hk,Mc]
   have:k=0∨k=1∨k=2:=by omega
   rcases this with rfl | rfl | rfl
   ·rw [Np,Lc (by omega),Qvc a0 (by omega)];rfl
   ·rw [Lc (by omega),Qvc a1 (by omega)];rfl
   rw [Lc (by omega),Qvc a2 (by omega)];rfl
  rw [Ae hk];simp;omega
 rename_i h3;rw [Ae h3] at hc;split at hn
 ·rename_i h4;rw [Af h4] at hc;obtain ⟨_,_,g1,g2,g3,h5,h6⟩:=h4
  simp only at hc
  omega
 exact absurd rfl hn
theorem Qsw (N:Nat) (s:List UInt8):Jt N s=some (decide (3≤s.length∧s.take 3 = [239,191,189])):=by
 unfold Jt;rw [Us]
 by_cases h:3≤s.length
 ·have h1:decide ((s.length:Int)≥3)=true:=by simp;omega
  have h2:(Nat.ble 0 3&&Nat.ble 3 s.length)=true:=by simp [h]
  rw [h1,h2];simp only [Ai,Ng,Q0k]
  congr 1
  by_cases h3:s.take 3 = [239,191,189]<;>simp [h,h3]
 have h1:decide ((s.length:Int)≥3)=false:=by simp;omega
 rw [h1];simp [h]
def Qxi (o:Option Nat):Int:=match o with
 | some p=>p
 | none => -1
theorem Qvq (s:List UInt8):Tot (fun N=>Q2r N s) (Qxi (Qjp s 0)):=by
 refine TotP.tot ?_;show TotP (fun N=>Wd N s N 0) _;refine Q60 (L:=fun N n (p:Nat)=>Wd N s n p) (fun p=>Qjp s p=Qjp s 0) (fun p=>s.length - p) (fun p hp=>?_) 0 rfl;show Stp _ _ _ (fun N n=>cond (Nat.blt p s.length) _ _);refine Stp.cond (fun h=>?_) (fun h=>?_)
 ·have hl:p<s.length:=by simpa [Nat.blt_eq] using h
  rw [Qm7];have hw:=Qm2 s p hl
  have hb:Qjp s p=(if (Q5v s p).1=0∨Qox s p then some p else Qjp s (p+(Q5v s p).2)):=by rw [Qjp,dif_pos hl]
  rw [Ym,Ym];refine Stp.cond (fun h0=>?_) (fun h0=>?_)
  ·have h0:(Q5v s p).1=0:=by simpa using h0
   refine Stp.ret ?_;rw [← hp,hb,Af (.inl h0)];rfl
  have h0:(Q5v s p).1≠0:=by simpa using h0
  refine Stp.cond (fun h1=>?_) (fun h1=>?_)
  ·have h1:(Q5v s p).1=65533:=by have:=Aa h1;omega
   refine Stp.chk (by simp;omega) ?_;rw [Ca];refine Stp.bind (V:=(· = decide (3≤(s.drop p).length∧(s.drop p).take 3 = [239,191,189]))) ⟨_,rfl,.of fun N=>Qsw N _⟩ ?_
   rintro v rfl
   have hwi:=Qrm hl h1;refine Stp.cond (fun h2=>?_) (fun h2=>?_)
   ·have h2:¬ (3≤(s.drop p).length∧(s.drop p).take 3 = [239,191,189]):=by
     have:(!decide (3≤(s.drop p).length∧(s.drop p).take 3 = [239,191,189]))=true:=h2;simpa only [Ny,An] using this
    have h3:Qox s p:=Lr fun h=>h2 (hwi.2 h);refine Stp.ret ?_;rw [← hp,hb,Af (.inr h3)];rfl
   have h2:(3≤(s.drop p).length∧(s.drop p).take 3 = [239,191,189]):=by
    have:(!decide (3≤(s.drop p).length∧(s.drop p).take 3 = [239,191,189]))=false:=h2;simpa only [Bool.not_eq_false',Ag] using this
   refine Stp.go (p+(Q5v s p).2) ⟨?_,by have:=hw.1;have:=hw.2.1;omega⟩;rw [← hp,hb,Ae]
   rintro (h | h)
   ·exact h0 h
   exact hwi.1 h2 h
  have h1:(Q5v s p).1≠65533:=by intro e;rw [e] at h1;simp at h1
  refine Stp.go (p+(Q5v s p).2) ⟨?_,by have:=hw.1;have:=hw.2.1;omega⟩;rw [← hp,hb,Ae]
  rintro (h | h)
  ·exact h0 h
  unfold Qox at h;rw [h] at h1;exact h1 rfl
 have hl:¬ p<s.length:=fun hlt=>by
  have h':Nat.blt p s.length=true:=by rw [Bv];exact hlt
  rw [h'] at h;cases h
 refine Stp.ret ?_;rw [← hp,Qjp,dif_neg hl];rfl
def Qax (s:List UInt8):Bool:=decide (s.length≤65535)&&(Qjp s 0).isNone
theorem Qtz (o:Option Nat):decide (Qxi o = -1)=o.isNone:=by
 cases o with
 | none=>rfl
 | some p=>simp [Qxi]
theorem Qhg (s:List UInt8):Tot (fun N=>Xa N s) (Qax s):=by
 refine TotP.tot ?_;show TotP (fun N=>cond (Q5 .leq (s.length:Int) 65535) _ _) _;rw [Vd];refine TotP.cond (fun h=>?_) (fun h=>?_)
 ·have h:s.length≤65535:=by have:=Aa h;omega
  refine TotP.bindE (Qvq s) (.ret ?_);rw [Ym,Qtz];simp [Qax,h]
 have h:¬ s.length≤65535:=by have:=Ac h;omega
 exact .ret (by simp [Qax,h])
end
end Go.Av
namespace Go.Av
noncomputable section
open Go.Proofs
theorem Qtd (s:List UInt8):Tot (fun N=>Q40 N s) (decide (s ≠ [])&&Qax s):=by
 refine TotP.tot ?_;show TotP (fun N=>cond (Q0k .neq s []) _ _) _
 have e:Q0k .neq s []=decide (s ≠ []):=by cases s<;>rfl
 rw [e];refine TotP.cond (fun h=>?_) (fun h=>?_)
 ·exact .bindE (Qhg s) (.ret (by rw [h];rfl))
 exact .ret (by rw [h];rfl)
theorem Qp3 (c:UInt8):∀ (l:List UInt8) (i:Nat),(0≤Qkw l c i)↔c∈l
 | [],i=>by simp [Qkw]
 | b::l,i=>by
  unfold Qkw
  by_cases h:b == c
  ·rw [Af h];have:=eq_of_beq h;subst this;simp
  rw [Ae h,Qp3 c l (i+1)];have:¬ c=b:=fun e=>h (by simp [e]);simp [this]
theorem Qtt {c:Nat} (h:Q9s c) (h1:128≤c):∃ l:List UInt8,(Utf8.encode (c:Int)).data.toList=l∧2≤l.length∧l.length≤4∧∀ b∈l,128≤b.toNat:=by
 have hv:=(Qi1 c).2 h;unfold Utf8.encode;simp only [hv,Ak,Lx];have h2:=h.2
 have m:∀ n,n<256→128≤n→128≤(UInt8.ofNat n).toNat:=fun n a b=>by rw [Cr];omega
 rw [Ae (by omega)];split
 ·refine ⟨_,rfl,by simp,by simp,fun b hb=>?_⟩;simp only [Mm,Cb,or_false] at hb
  rcases hb with rfl | rfl<;>exact m _ (by omega) (by omega)
 split
 ·refine ⟨_,rfl,by simp,by simp,fun b hb=>?_⟩;simp only [Mm,Cb,or_false] at hb
  rcases hb with rfl | rfl | rfl<;>exact m _ (by omega) (by omega)
 refine ⟨_,rfl,by simp,by simp,fun b hb=>?_⟩;simp only [Mm,Cb,or_false] at hb
 rcases hb with rfl | rfl | rfl | rfl<;>exact m _ (by omega) (by omega)
theorem Qte (M:Nat):Y0 (M+3) [43,35] (M+3) 0=some (-1):=by
 have e1:Qap [43,35] 0=(43,1):=by decide
 have e2:Qap [43,35] (0+1)=(35,1):=by decide
 have b0:Nat.blt 0 ([43,35]:List UInt8).length=true:=rfl;have b1:Nat.blt (0+1) ([43,35]:List UInt8).length=true:=rfl;have b2:Nat.blt (0+1+1) ([43,35]:List UInt8).length=false:=rfl
 have c1:Q5 .eql ((43:Nat):Int) 65533=false:=by decide
 have c2:Q5 .eql ((35:Nat):Int) 65533=false:=by decide
 rw [Y0,e1,b0,Ai,c1,Ah,Y0,e2,b1,Ai,c2,Ah,Y0,b2,Ah]
theorem Qv9 {c:Nat} (hc:Q9s c) (N:Nat):Xw N (c:Int)=some true:=by
 unfold Xw;simp only [Vd,Ql];obtain ⟨k1,k2⟩:=hc;rw [Ad (show (0:Int)≤(c:Int) by omega)]
 by_cases h5:(c:Int)<55296
 ·rw [Ad h5];rfl
 have h6:(57343:Int)<(c:Int):=by omega
 have h7:(c:Int)≤1114111:=by omega
 rw [Ab h5,Ad h6,Ad h7];rfl
theorem Qu1 {c:Nat} (hc:Q9s c) (h:128≤c) (M:Nat):Xm (M+1) [43,35] (c:Int) (M+1)=some (-1):=by
 obtain ⟨l,hl,l1,l2,l3⟩:=Qtt hc h;rw [Xm];simp only [hl,Ql,X4]
 have ew:wrap .i64 ((l.length:Int) - 1)=((l.length - 1:Nat):Int):=by rw [w64 _ (by omega)];omega
 rw [ew]
 by_cases h2:l.length=2
 ·have e1:((l.length - 1:Nat):Int)=((1:Nat):Int):=by rw [h2]
  rw [e1];have e2:idx l ((1:Nat):Int)=some l[1]:=Qr (by omega);have e3:=l3 l[1] (Mi _);generalize l[1]=y at e2 e3
  have e4:decide (((35:UInt8).toNat:Int)≠(y.toNat:Int))=true:=by
   have:(35:UInt8).toNat=35:=rfl;simp only [ne_eq,Ag];omega
  have e5:idx ([43,35]:List UInt8) ((1:Nat):Int)=some 35:=rfl
  have e6:wrap .i64 (((1:Nat):Int)+1)=2:=by decide
  have e7:decide (((1:Nat):Int)<((([43,35]:List UInt8).length:Nat):Int))=true:=by decide
  have e8:decide ((0:Int)≤2)=true:=by decide
  rw [e7,Ai,e5,Lh,e2,Lh,e4,Ai,e6,e8,Ai]
  have e9:(Nat.ble (Int.toNat 2) ([43,35]:List UInt8).length&&Nat.ble ([43,35]:List UInt8).length ([43,35]:List UInt8).length)=true:=by decide
  rw [e9,Ai,Lh];rfl
 have e1:decide (((l.length - 1:Nat):Int)<((([43,35]:List UInt8).length:Nat):Int))=false:=by
  simp;omega
 rw [e1];rfl
theorem Qh2 {c:Nat} (hc:Q9s c):TotP (fun N=>J6 N [43,35] (c:Int)) (fun v=>decide (v≥0)=decide (c=43∨c=35)):=by
 show TotP (fun N=>cond (Q5 .leq 0 (c:Int)) _ _) _
 have e0:Q5 .leq 0 (c:Int)=true:=by rw [Vd];simp
 rw [e0];refine TotP.cond (fun _=>?_) (fun h=>by cases h);unfold Wk;rw [Ql,Ym];refine TotP.cond (fun h=>?_) (fun h=>?_)
 ·have h:c<128:=by have:=Aa h;omega
  have ew:wrap .u8 (c:Int)=c:=by
   rw [IntWalk.u8_in];omega
  refine TotP.bindE (v:=Qkw [43,35] (UInt8.ofNat c) 0) (.of fun N=>?_) (.ret ?_)
  ·show ((X7 N [43,35] _).bind fun v=>some v)=_;rw [ew];rfl
  have:=Qp3 (UInt8.ofNat c) [43,35] 0;rw [decide_eq_decide];show (0≤_)↔_;rw [this]
  have e1:∀ n,n<256→(UInt8.ofNat c=UInt8.ofNat n↔c=n):=fun n hn=>by
   rw [← De,Cr,Cr];omega
  have a:=e1 43 (by omega);have b:=e1 35 (by omega);simp only [Mm,Cb,or_false];exact or_congr a b
 have h:128≤c:=by have:=Ac h;omega
 have hn:decide (c=43∨c=35)=false:=by simp;omega
 refine TotP.cond (fun h1=>?_) (fun h1=>?_)
 ·-- bytes that are none
  refine ⟨-1,by rw [hn];rfl,3,fun N hN=>?_⟩;obtain ⟨M,rfl⟩:∃ M,N=M+3:=⟨N - 3,by omega⟩;exact Qte M
 refine TotP.bindE (.of (Qv9 hc)) ?_;refine TotP.cond (fun h=>by cases h) (fun _=>?_);refine ⟨-1,by rw [hn];rfl,1,fun N hN=>?_⟩;obtain ⟨M,rfl⟩:∃ M,N=M+1:=⟨N - 1,by omega⟩;exact Qu1 hc h M
end
end Go.Av
namespace Go.Av
noncomputable section
open Go.Proofs
def Qsi (s:List UInt8):Bool:=s.any fun b=>b.toNat == 43||b.toNat == 35
theorem Qun {s:List UInt8} {j:Nat} (hj:j<s.length) (h:at8 s j=43∨at8 s j=35):Qsi s=true:=by
 unfold Qsi;rw [Bz];refine ⟨s[j],Mi _,?_⟩;rw [Q7w hj] at h
 rcases h with h | h<;>simp [h]
theorem Quf {s:List UInt8} (h:∀ j,j<s.length→at8 s j≠43∧at8 s j≠35):Qsi s=false:=by
 unfold Qsi;rw [Cv];intro b hb;obtain ⟨j,hj,rfl⟩:=Nh hb;have:=h j hj;rw [Q7w hj] at this;simp [this.1,this.2]
def asciiS:List Bool:=(List.range 256).map fun n=>n == 43||n == 35
theorem Qq4 (n:Nat) (h:n<256):idx asciiS (n:Int)=some (n == 43||n == 35):=by
 have hl:n<asciiS.length:=by simp [asciiS];exact h
 rw [Qr hl];simp [asciiS]
set_option maxRecDepth 20000 in
theorem Qit (s:List UInt8) (hs:s.length≤maxLen):TotP (fun N=>Uc N s) (fun v=>decide (v≥0)=Qsi s):=by
 have hm:=Q3n;show TotP (fun N=>cond (Q0k .eql [43,35] []) _ _) _;refine TotP.cond (fun h=>by cases h) (fun _=>?_);refine TotP.bindE (v:=decide ((s.length:Int)>8)) (.of fun N=>rfl) ?_;refine TotP.cond (fun _=>?_) (fun _=>?_)
 ·refine Q35 (L:=fun N n i=>X5 N s n i) s.length (fun i=>∀ j,j<i→at8 s j≠43∧at8 s j≠35) (fun i hi hj=>?_) (fun hj=>?_) (fun j hj=>by omega)
  ·show Stp _ _ _ (fun N n=>cond (Q5 .lss (i:Int) (s.length:Int)) _ _);refine Stp.cond (fun _=>?_) (fun h=>by rw [Ql] at h;have:=Ac h;omega);refine Stp.idx (Qr hi) ?_;have hb:=Dh s[i];refine Stp.chk (by simp;omega) ?_;refine Stp.idx (Qq4 _ (by omega)) ?_;refine Stp.cond (fun h=>?_) (fun h=>?_)
   ·refine Stp.ret ?_;rw [Qun hi (by rw [Q7w hi];simpa using h)];simp
   rw [w64 _ (by omega)];refine Stp.go _ ⟨by omega,fun j hj'=>?_⟩
   by_cases e:j=i
   ·subst e;rw [Q7w hi];simpa using h
   exact hj j (by omega)
  show Stp _ _ _ (fun N n=>cond (Q5 .lss (s.length:Int) (s.length:Int)) _ _);refine Stp.cond (fun h=>by rw [Ql] at h;have:=Aa h;omega) (fun _=>?_);refine Stp.ret ?_;rw [Quf hj];rfl
 refine Q60 (L:=fun N n (p:Nat)=>X6 N s n p) (fun p=>∀ j,j<p→at8 s j≠43∧at8 s j≠35) (fun p=>s.length - p) (fun p hp=>?_) 0 (fun j hj=>by omega);show Stp _ _ _ (fun N n=>cond (Nat.blt p s.length) _ _);refine Stp.cond (fun h=>?_) (fun h=>?_)
 ·have hl:p<s.length:=by simpa [Nat.blt_eq] using h
  rw [Qm7];obtain ⟨w1,w2,w3,w4,w5,w6⟩:=Qm2 s p hl;refine Stp.bind (Qh2 w6) ?_;intro v hv;rw [Us,hv];refine Stp.cond (fun h=>?_) (fun h=>?_)
  ·have h:=Aa h;have h128:at8 s p<128:=w3.1 (by omega);refine Stp.ret ?_;rw [Qun hl (by rw [← (w4 h128).1];exact h)];simp
  have h:=Ac h;refine Stp.go _ ⟨fun j hj=>?_,by omega⟩
  by_cases e:j<p
  ·exact hp j e
  by_cases e2:j=p
  ·subst e2
   by_cases h128:at8 s j<128
   ·rw [(w4 h128).1] at h;omega
   omega
  have:=w5 (j - p) (by omega) (by omega);rw [show p+(j - p)=j by omega] at this;omega
 refine Stp.ret ?_;rw [Quf (fun j hj=>hp j ?_)]
 ·rfl
 have:¬ p<s.length:=fun hlt=>by
  have h':Nat.blt p s.length=true:=by rw [Bv];exact hlt
  rw [h'] at h;cases h
 omega
theorem Qjj (s:List UInt8) (hs:s.length≤maxLen):Tot (fun N=>V7 N s) (Qsi s):=by
 refine TotP.tot ?_;refine TotP.bind (Qit s hs) (fun v hv => .ret ?_);rw [Us];exact hv
def Q1e (s:List UInt8):Bool:=decide (s ≠ [])&&Qax s && !Qsi s
theorem Q75 (s:List UInt8) (hs:s.length≤maxLen):Tot (fun N=>Yx N s) (Q1e s):=by
 refine TotP.tot ?_;refine TotP.bindE (Qtd s) ?_;refine TotP.cond (fun h=>?_) (fun h=>?_)
 ·refine TotP.bindE (Qjj s hs) (.ret ?_);unfold Q1e;rw [h];rfl
 exact .ret (by unfold Q1e;rw [h];rfl)
end
end Go.Av
namespace Go.Av
noncomputable section
def Any {R:Type} (f:Nat→Option R):Prop:=TotP f fun _=>True
theorem Qbg (N:Nat) (x a b:Int):Vm N x a b=some (decide (a≤x)&&decide (x≤b)):=by
 unfold Vm;rw [Us,Vd]
 by_cases h:a≤x
 ·rw [Ad (p:=x≥a) h];rfl
 rw [Ab (p:=x≥a) h];rfl
theorem Q5i (n size:Int):TotP (fun N=>Yf N n size) (fun l=>l.length≤16):=by
 show TotP (fun N=>cond (Q5 .leq size 0) _ _) _;rw [Vd];refine TotP.cond (fun _ => .ret (by simp)) (fun h=>?_)
 have h:0<size:=by have:=Ac h;omega
 obtain ⟨m,hm,hm16⟩:∃ m:Nat,ifB (decide (16<size)) (16:Int) size=(m:Int)∧m≤16:=by
  by_cases g:16<size
  ·exact ⟨16,by rw [Ad g];rfl,by omega⟩
  exact ⟨size.toNat,by rw [Ab g];show size=_;omega,by omega⟩
 rw [hm];refine TotP.chk (by simp only [Lb,Ag];omega) ?_;have:=Q60 (L:=fun N n' (p:Int×List Int)=>Xb N n size n' p.1 p.2) (Q:=fun l:List UInt8=>l.length≤16) (fun p=>∃ i:Nat,p.1=(i:Int)∧i≤m∧p.2.length=m) (fun p=>m - p.1.toNat)
  ?_ (0,List.replicate ((m:Int).toNat) 0) ⟨0,rfl,by omega,by simp⟩
 ·exact this
 rintro ⟨s,l⟩ ⟨i,hs,hi,hl⟩
 simp only at hs hl
 subst hs;show Stp _ _ _ (fun N n'=>cond (Q5 .lss (i:Int) (ifB (decide (16<size)) 16 size)) _ _);rw [hm,Ql,Ql];refine Stp.cond (fun h=>?_) (fun h=>?_)
 ·have h:=Aa h
  have e1:wrap .i64 ((i:Int)+1)=((i+1:Nat):Int):=by rw [w64 _ (by omega)];omega
  refine Stp.cond (fun h8=>?_) (fun h8=>?_)
  ·have h8:=Aa h8;refine Stp.chk ?_ ?_
   ·rw [w64 (8 * (i:Int)) (by omega)]
    have:i=0∨i=1∨i=2∨i=3∨i=4∨i=5∨i=6∨i=7:=by omega
    rcases this with rfl | rfl | rfl | rfl | rfl | rfl | rfl | rfl<;>rfl
   have e2:wrap .i64 (wrap .i64 ((m:Int) - 1) - (i:Int))=((m - 1 - i:Nat):Int):=by rw [w64 ((m:Int) - 1) (by omega),w64 _ (by omega)];omega
   rw [e1,e2];refine Stp.idx (Qr (show m - 1 - i<l.length by omega)) ?_;refine Stp.go (L:=fun N n' (p:Int×List Int)=>Xb N n size n' p.1 p.2) (_,_) ⟨⟨i+1,rfl,by omega,by simp [hl]⟩,?_⟩;simp only [Lx];omega
  rw [e1];refine Stp.go (L:=fun N n' (p:Int×List Int)=>Xb N n size n' p.1 p.2) (_,_) ⟨⟨i+1,rfl,by omega,hl⟩,?_⟩;simp only [Lx];omega
 exact Stp.ret (by simp [hl];exact hm16)
theorem Qer (x:Int):TotP (fun N=>Ui N x) (fun r=>r.1.length≤268435456):=by
 show TotP (fun N=>(Q26 N x).bind _) _
 have hm:∀ N,Q26 N x=some (decide (0≤x)&&decide (x≤268435455)):=fun N=>by
  show cond (Q5 .geq x 0) (some (Q5 .leq x 268435455)) (some false)=_;rw [Us,Vd]
  by_cases h:0≤x
  ·rw [Ad (p:=x≥0) h];rfl
  rw [Ab (p:=x≥0) h];rfl
 refine TotP.bindE (.of hm) ?_;refine TotP.cond (fun _ => .ret (by simp)) (fun h=>?_)
 have h:0≤x∧x≤268435455:=by simpa using h
 have:=Q60 (L:=fun N n' (p:Int×List Int)=>Wn N n' p.1 p.2) (Q:=fun r:List UInt8×Int=>r.1.length≤268435456) (fun p=>0≤p.1∧(p.2.length:Int)≤268435455 - p.1) (fun p=>p.1.toNat)
  ?_ (x,[]) ⟨h.1,by simp;omega⟩
 ·exact this
 rintro ⟨s,l⟩ ⟨h1,h2⟩
 simp only at h1 h2
 show Stp _ _ _ (fun N n'=>cond (Q5 .geq s 128) _ _);rw [Us];refine Stp.cond (fun h=>?_) (fun h=>?_)
 ·have h:=Aa h;refine Stp.chk (by rw [Lu];dsimp only;omega) ?_;have e:s.tdiv 128=s / 128:=Ct h1;rw [e,w64 _ (by omega)];refine Stp.go (L:=fun N n' (p:Int×List Int)=>Wn N n' p.1 p.2) (_,_) ⟨⟨by simp only;omega,by simp only [Lq,Ly,Mg];omega⟩,by simp only;omega⟩
 refine Stp.chk (by rw [Lu];dsimp only;omega) ?_;exact Stp.ret (by simp;omega)
theorem Qf2 (s:List UInt8):TotP (fun N=>Jf N s) (fun r=>r.1.length≤65551):=by
 show TotP (fun N=>cond (Q5 .gtr (s.length:Int) 65535) _ _) _;rw [Wx];refine TotP.cond (fun _ => .ret (by simp)) (fun h=>?_);have h:=Ac h;refine TotP.bind (f:=fun N=>Q03 N s) (V:=fun l=>l.length≤65551) ?_ (fun v hv => .ret hv);refine TotP.bind (Q5i _ _) (fun v hv=>?_);refine TotP.chk (by rw [Lu];omega) (.ret ?_)
 simp;omega
theorem Ql8 (h:Wz) (hh:h.Node.length≤300):TotP (fun N=>Uo N h) (fun l=>l.length≤400):=by
 refine TotP.bind (Q5i _ _) (fun a ha=>?_);refine TotP.bind (Q5i _ _) (fun b hb=>?_);refine TotP.chk (by rw [Lu];omega) ?_;refine TotP.bind (Q5i _ _) (fun c hc=>?_);refine TotP.chk (by rw [Lu];simp;omega) ?_;refine TotP.chk (by rw [Lu];simp;omega) (.ret ?_)
 simp;omega
theorem Qr0 (h:Wz):Any (fun N=>Jg N h):=by
 refine TotP.bind (V:=fun _=>True) ?_ (fun _ _ => .ret trivial);show TotP (fun N=>cond (Q5 .geq h.Radius 0) _ _) _;refine TotP.cond (fun _=>TotP.cond (fun _=>TotP.cond (fun _ => .ret trivial) (fun _ => .ret trivial)) (fun _ => .ret trivial)) (fun _ => .ret trivial)
section
variable (e:Qa) (lm:Xd) (h1:e.Hops.length≤8) (h2:∀ h∈e.Hops,h.Node.length≤300)
include h1 h2
end
end
end Go.Av
namespace Go.Av
noncomputable section
section
variable {R S T:Type} {L:Nat→Nat→S→Option R} {P:S→Prop} {Q:R→Prop}
theorem Stp.optN {f:Nat→Nat→T→Option R} {z:Nat→Nat→Option R} (h:Stp L P Q z):Stp L P Q (fun N n=>optC none (f N n) (z N n)):=h
theorem Stp.optS {v:T} {f:Nat→Nat→T→Option R} {z:Nat→Nat→Option R} (h:Stp L P Q (fun N n=>f N n v)):Stp L P Q (fun N n=>optC (some v) (f N n) (z N n)):=h
end
theorem Qj3 {T:Type} {x:Int} {v:T}:∀ {tab:List (Int×T)},Q6o tab x=some v→(x,v)∈tab
 | (k,w)::r,h=>by
  unfold Q6o at h
  cases hb:x == k with
  | true=>rw [hb] at h;have e:=eq_of_beq hb;subst e;cases h;exact List.mem_cons_self
  | false=>rw [hb] at h;exact List.mem_cons_of_mem _ (Qj3 h)
 | [],h=>nomatch h
theorem Qtf {x:Int} {v:Qo} (h:Q6o F_prop_rules_tab x=some v):1≤x∧x≤42:=by
 have hall:(F_prop_rules_tab.all fun q=>decide (1≤q.1)&&decide (q.1≤42))=true:=by decide +kernel
 have:=Lp.1 hall _ (Qj3 h);simpa using this
theorem Qq7 (s:Int) (p:Z8):TotP (fun N=>Ux N s p) (fun l=>l.length≤268500000):=by
 refine TotP.cond (fun _=>TotP.bind (Q5i _ _) (fun v hv => .ret (by omega))) (fun _=>?_);refine TotP.cond (fun _=>TotP.bind (Q5i _ _) (fun v hv => .ret (by omega))) (fun _=>?_);refine TotP.cond (fun _=>TotP.bind (Q5i _ _) (fun v hv => .ret (by omega))) (fun _=>?_);refine TotP.cond (fun _=>TotP.bind (Qer _) (fun v hv => .ret (by omega))) (fun _=>?_);refine TotP.bind (Qf2 _) (fun v hv=>?_);refine TotP.cond (fun _ => .ret (by omega)) (fun _=>?_);refine TotP.bind (Qf2 _) (fun w hw=>?_);exact TotP.chk (by rw [Lu];omega) (.ret (by simp only [Lq];omega))
end
end Go.Av
namespace Go.Av
noncomputable section
theorem Qcv (l:List Z8) (hb:l.length≤maxLen):TotP (fun N=>Za N l) (fun v=>v=true→l.length≤30∧∀ p∈l,p.Text.length≤300∧p.Value.length≤300):=by
 have hm:=Q3n
 ·refine Q35 (L:=fun N n s=>Zz N l n s) l.length (fun i=>∀ j (h:j<l.length),j<i→(l[j]).Text.length≤300∧(l[j]).Value.length≤300) (fun i hi hj=>?_) (fun hj=>?_) (fun j _ hj=>by omega)
  ·show Stp _ _ _ (fun N n=>cond (Q5 .lss (i:Int) ((Q8 Z8.cells l).length:Int)) _ _);rw [Q6,Ql];refine Stp.cond (fun _=>?_) (fun h=>by have:=Ac h;omega);refine Stp.idx (Qr hi) ?_;rw [Wx];refine Stp.cond (fun _=>Stp.ret (fun h=>nomatch h)) (fun h1=>?_);refine Stp.idx (Qr hi) ?_;rw [Wx];refine Stp.cond (fun _=>Stp.ret (fun h=>nomatch h)) (fun h2=>?_);have h1:=Ac h1;have h2:=Ac h2;rw [w64 _ (by omega)];refine Stp.go (L:=fun N n s=>Zz N l n s) _ ⟨by omega,fun j hj' hji=>?_⟩
   by_cases e:j=i
   ·subst e;constructor<;>omega
   exact hj j hj' (by omega)
  show Stp _ _ _ (fun N n=>cond (Q5 .lss (l.length:Int) ((Q8 Z8.cells l).length:Int)) _ _);rw [Q6,Ql];refine Stp.cond (fun h=>by have:=Aa h;omega) (fun _=>Stp.ret (fun h=>⟨?_,fun p hp=>?_⟩))
  ·rw [Vd] at h;have:=Aa h;omega
  obtain ⟨j,hj',rfl⟩:=Nh hp;exact hj j hj' hj'
theorem Z0v (x:Int):wrap .i64 x≤9223372036854775807:=by rw [IntKind.wrap_i64];omega
theorem Qpx:∀ (k:Nat) (v:Q0) (deep most:Int),deep<(k:Int) → -1≤deep→deep≤1000→most≤9223372036854775807→Any (fun N=>Zm N v deep most):=by
 intro k
 induction k with
 | zero=>
  intro v deep most h _ _ _;refine ⟨wrap .i64 (most+1),trivial,1,fun N hN=>?_⟩;obtain ⟨M,rfl⟩:∃ M,N=M+1:=⟨N - 1,by omega⟩;show cond (Q5 .lss deep 0) _ _=_;rw [Ql,Ad (by omega)];rfl
 | succ k ih=>
  intro v deep most h hd hdm hm
  have body:Any (fun N=>Vu (Zm N) N v deep most):=by
   refine TotP.cond (fun _ => .ret trivial) (fun h1=>?_);refine TotP.cond (fun _ => .ret trivial) (fun h2=>?_);refine TotP.cond (fun _ => .ret trivial) (fun _=>?_);rw [Ql] at h1;rw [Q0.rows_eq,Q6,Wx] at h2;have h1:=Ac h1;have h2:=Ac h2;have:=Q60 (L:=fun N n (p:Int×Int)=>Y1 (Zm N) N v deep most n p.1 p.2) (Q:=fun _=>True) (fun p=>∃ i:Nat,p.2=(i:Int)∧i≤v.Items.length) (fun p=>v.Items.length - p.2.toNat) ?_ (1,0) ⟨0,rfl,by omega⟩
   ·exact this
   rintro ⟨q,s⟩ ⟨i,hs,hi⟩
   simp only at hs
   subst hs;show Stp _ _ _ (fun N n=>cond (Q5 .lss (i:Int) ((Q0.rows v.Items).length:Int)) _ _);rw [Q0.rows_eq,Q6,Ql];refine Stp.cond (fun h=>?_) (fun _=>Stp.ret trivial);have h:=Aa h
   have hi:i<v.Items.length:=by omega
   refine Stp.cond (fun _=>?_) (fun _=>Stp.ret trivial);refine Stp.idx (Qr hi) ?_;rw [w64 (deep - 1) (by omega)];refine Stp.bind (f:=fun N=>Zm N (v.Items[i]) (deep - 1) (wrap .i64 (most - q))) (V:=fun _=>True) (ih v.Items[i] (deep - 1) (wrap .i64 (most - q)) (by omega) (by omega) (by omega) (Z0v (most - q))) (fun w _=>?_);rw [w64 ((i:Int)+1) (by omega)];refine Stp.go (L:=fun N n (p:Int×Int)=>Y1 (Zm N) N v deep most n p.1 p.2) (_,_) ⟨⟨i+1,by simp only;omega,by omega⟩,by simp only;omega⟩
  obtain ⟨r,_,N0,hN⟩:=body;refine ⟨r,trivial,N0+1,fun N h=>?_⟩;obtain ⟨M,rfl⟩:∃ M,N=M+1:=⟨N - 1,by omega⟩;exact hN M (by omega)
theorem Qr1 (f:Zg):Any (fun N=>Y2 N f):=by
 refine TotP.cond (fun _ => .ret trivial) (fun h0=>?_);rw [Q0.rows_eq,Q6,Wx] at h0;have h0:=Ac h0;refine TotP.cond (fun _ => .ret trivial) (fun _=>?_);refine Q35 (L:=fun N n s=>Z9 N f n s) f.Values.length (fun _=>True) (fun i hi _=>?_) (fun _=>?_) trivial
 ·show Stp _ _ _ (fun N n=>cond (Q5 .lss (i:Int) ((Q0.rows f.Values).length:Int)) _ _);rw [Q0.rows_eq,Q6];refine Stp.cond (fun _=>?_) (fun _=>Stp.ret trivial);refine Stp.idx (Qr hi) ?_;refine Stp.bind (V:=fun _=>True) (TotP.bind (Qpx 7 _ 6 40 (by decide) (by decide) (by decide) (by decide)) (fun _ _ => .ret trivial)) (fun _ _=>?_);refine Stp.cond (fun _=>Stp.ret trivial) (fun _=>?_);rw [w64 _ (by omega)];exact Stp.go (L:=fun N n s=>Z9 N f n s) _ ⟨by omega,trivial⟩
 show Stp _ _ _ (fun N n=>cond (Q5 .lss (f.Values.length:Int) ((Q0.rows f.Values).length:Int)) _ _);rw [Q0.rows_eq,Q6];refine Stp.cond (fun h=>by rw [Ql] at h;have:=Aa h;omega) (fun _=>Stp.ret trivial)
structure OkE (e:Qa):Prop where
 topic:e.Topic.length≤maxLen
 props:e.Props.length≤maxLen
 filters:e.Packet.Filters.length≤maxLen
 pprops:e.Packet.Props.length≤maxLen
 wprops:e.Packet.Will.Props.length≤maxLen
structure LightE (e:Qa):Prop where
 topic:e.Topic.length≤2000
 payload:e.Payload.length≤2000
 props:e.Props.length≤30∧∀ p∈e.Props,p.Text.length≤300∧p.Value.length≤300
 hops:e.Hops.length≤8∧∀ h∈e.Hops,h.Node.length≤300
def Lv (o:Option Int) (P:Prop):Prop:=∃ v,o=some v∧(v=0→P)
theorem Lv.of {v:Int} {P:Prop} (h:P):Lv (some v) P:=⟨v,rfl,fun _=>h⟩
theorem Lv.no {v:Int} {P:Prop} (h:v≠0):Lv (some v) P:=⟨v,rfl,fun e=>absurd e h⟩
theorem Lv.cond {b:Bool} {x y:Option Int} {P:Prop} (h1:Lv x P) (h2:Lv y P):Lv (cond b x y) P:=by cases b<;>assumption
structure PubE (e:Qa):Prop where
 proto:e.Proto=1∨e.Proto=2∨e.Proto=3∨e.Proto=4
 kind:e.Kind=1
 qos:e.QoS = -1∨e.QoS=0∨e.QoS=1∨e.QoS=2
theorem Qt3 (N:Nat) (p:Int):Q15 N p=some (decide (p=1∨p=2∨p=3∨p=4)):=by
 by_cases h:p=1∨p=2∨p=3∨p=4
 ·rw [Ad h];rcases h with rfl | rfl | rfl | rfl<;>rfl
 have h0:Q6o Jn p=none:=by
  have h1:(p == 1)=false:=by simp;omega
  have h2:(p == 2)=false:=by simp;omega
  have h3:(p == 3)=false:=by simp;omega
  have h4:(p == 4)=false:=by simp;omega
  unfold Jn;simp only [Q6o,h1,h2,h3,h4,Ah]
 unfold Q15;rw [h0,Ab h];rfl
end
end Go.Av
namespace Go.Av
noncomputable section
open Go.Proofs
set_option maxRecDepth 100000
end
end Go.Av
namespace Go.Av
noncomputable section
open Go.Proofs
set_option maxRecDepth 100000
end
end Go.Av
namespace Go.Av
noncomputable section
open Go.Proofs
set_option maxRecDepth 100000
end
end Go.Av
namespace Go.Av
noncomputable section
open Go.Proofs
set_option maxRecDepth 100000
theorem Qvx (v:Q0) (h:v.txt):v.wgt≤430 * v.sz:=by
 induction v using Q0.ind with
 | h v ih=>
  rw [Q0.txt_eq] at h
  have hl:∀ l:List Q0,(∀ x∈l,x.wgt≤430 * x.sz)→Q0.wgts l≤430 * Q0.szs l:=by
   intro l
   induction l with
   | nil=>intro _;simp [Q0.wgts]
   | cons x l ihl=>
    intro h;have h1:=h x (.head _);have h2:=ihl (fun y hy=>h y (.tail _ hy));simp only [Q0.wgts,Q0.szs];omega
  have:=hl v.Items (fun x hx=>ih x hx (Qh4 _ h.2 x hx));rw [v.wgt_eq,v.sz_eq];omega
end
end Go.Av
namespace Go.Av
noncomputable section
open Go.Proofs
set_option maxRecDepth 100000
end
end Go.Av
namespace Go.Av
noncomputable section
open Go.Proofs
set_option maxRecDepth 100000
end
end Go.Av
namespace Go.Av
noncomputable section
open Go.Proofs
set_option maxRecDepth 100000
structure FB (f:Zg):Prop where
 fine:∀ x∈f.Values,Fine x
 sz:Q0.szs f.Values<160000000
 wgt:Q0.wgts f.Values<4000000000
theorem FB.len {f:Zg} (h:FB f):f.Values.length<160000000:=by
 have h1:=Q0.szs_len f.Values;have h2:=h.sz;omega
end
end Go.Av
namespace Go.Av
noncomputable section
open Go.Proofs
set_option maxRecDepth 100000
theorem Zg.ext' {a b:Zg} (h1:a.Type'=b.Type') (h2:a.Channel=b.Channel) (h3:a.Ext=b.Ext) (h4:a.Values=b.Values):a=b:=by cases a;cases b;simp_all
noncomputable instance:DecidableEq Zg:=fun a b=>decidable_of_iff (a.Type'=b.Type'∧a.Channel=b.Channel∧a.Ext=b.Ext∧a.Values=b.Values) ⟨fun h=>Zg.ext' h.1 h.2.1 h.2.2.1 h.2.2.2,fun h=>by rw [h];exact ⟨rfl,rfl,rfl,rfl⟩⟩
theorem Qle (l m:List Q0) (i:Nat) (h:i<l.length) (h':i<m.length):decide (l.drop i=m.drop i)=(decide (l[i]=m[i])&&decide (l.drop (i+1)=m.drop (i+1))):=by
 rw [Nd h,Nd h',Df];simp only [Ag,Lb,Bo]
theorem Qhp {N:Nat} (hN:800000000≤N) {a b:Zg} (ha:Q0.szs a.Values<700000000) (hl:a.Values.length=b.Values.length):∀ (n i:Nat),i≤a.Values.length→a.Values.length - i<n→X3 N a b n (i:Int)=some (decide (a.Values.drop i=b.Values.drop i))
 | 0,i,_,h=>by omega
 | n+1,i,hi,hn=>by
  have hs:=Q0.szs_len a.Values;simp only [X3,Q2i,Qka,Jd,Q6t]
  by_cases h:i<a.Values.length
  ·have h':i<b.Values.length:=by omega
   have hx:=Q0.szs_mem _ _ (Mi h);rw [Af (by omega),Lc h,Lc h'];simp only [Lh];rw [Qoz N _ _ (by omega) (by omega),Qle _ _ i h h'];simp only [Lh];rw [Q7m _ (by omega)];have ih:=Qhp hN ha hl n (i+1) (by omega) (by omega)
   have ih:X3 N a b n ((i:Int)+1)=some (decide (a.Values.drop (i+1)=b.Values.drop (i+1))):=by exact_mod_cast ih
   rw [ih];cases decide (a.Values[i]=b.Values[i])<;>rfl
  rw [Ae (by omega),Mk (by omega),Mk (by omega)];rfl
theorem Qrd {N:Nat} (hN:800000000≤N) (a b:Zg) (ha:Q0.szs a.Values<700000000):Ga N a b=some (decide (a=b)):=by
 have hs:=Q0.szs_len a.Values;simp only [Ga,Q2i,Qth,Qbj,Jd]
 by_cases h1:a.Type'=b.Type'
 ·rw [Ae (by simp [h1])]
  by_cases h2:a.Channel=b.Channel
  ·rw [Ae (by simp [h2])]
   by_cases h3:a.Ext=b.Ext
   ·rw [Ae (by simp [h3])]
    by_cases h4:a.Values.length=b.Values.length
    ·rw [Ae (by simp [h4])];have:=Qhp hN ha h4 N 0 (by omega) (by omega);rw [Ng,Ng] at this
     have:X3 N a b N 0=some (decide (a.Values=b.Values)):=by exact_mod_cast this
     rw [this]
     congr 1
     rw [Df];simp only [Ag];exact ⟨fun h=>Zg.ext' h1 h2 h3 h,fun h=>by rw [h]⟩
    rw [Af (by omega),Ab (fun h=>h4 (by rw [h]))]
   rw [Af h3,Ab (fun h=>h3 (by rw [h]))]
  rw [Af h2,Ab (fun h=>h2 (by rw [h]))]
 rw [Af h1,Ab (fun h=>h1 (by rw [h]))]
theorem Qal {N:Nat} (hN:800000000≤N) {a b:Zg} (ha:Q0.szs a.Values<700000000) (hl:a.Values.length=b.Values.length):∀ (n i:Nat),i≤a.Values.length→a.Values.length - i<n→Zu N a b n (i:Int)=some (decide (a.Values.drop i=b.Values.drop i))
 | 0,i,_,h=>by omega
 | n+1,i,hi,hn=>by
  have hs:=Q0.szs_len a.Values;simp only [Zu,Q2i,Qka,Jd,Q6t]
  by_cases h:i<a.Values.length
  ·have h':i<b.Values.length:=by omega
   have hx:=Q0.szs_mem _ _ (Mi h);rw [Af (by omega),Lc h,Lc h'];simp only [Lh];rw [Qfk N _ _ (by omega) (by omega),Qle _ _ i h h'];simp only [Lh];rw [Q7m _ (by omega)];have ih:=Qal hN ha hl n (i+1) (by omega) (by omega)
   have ih:Zu N a b n ((i:Int)+1)=some (decide (a.Values.drop (i+1)=b.Values.drop (i+1))):=by exact_mod_cast ih
   rw [ih];cases decide (a.Values[i]=b.Values[i])<;>rfl
  rw [Ae (by omega),Mk (by omega),Mk (by omega)];rfl
theorem Qao {N:Nat} (hN:800000000≤N) (a b:Zg) (ha:Q0.szs a.Values<700000000):W9 N a b=some (decide (a=b)):=by
 have hs:=Q0.szs_len a.Values;simp only [W9,Q2i,Qth,Qbj,Jd]
 by_cases h1:a.Type'=b.Type'
 ·rw [Ae (by simp [h1])]
  by_cases h2:a.Channel=b.Channel
  ·rw [Ae (by simp [h2])]
   by_cases h3:a.Ext=b.Ext
   ·rw [Ae (by simp [h3])]
    by_cases h4:a.Values.length=b.Values.length
    ·rw [Ae (by simp [h4])];have:=Qal hN ha h4 N 0 (by omega) (by omega);rw [Ng,Ng] at this
     have:Zu N a b N 0=some (decide (a.Values=b.Values)):=by exact_mod_cast this
     rw [this]
     congr 1
     rw [Df];simp only [Ag];exact ⟨fun h=>Zg.ext' h1 h2 h3 h,fun h=>by rw [h]⟩
    rw [Af (by omega),Ab (fun h=>h4 (by rw [h]))]
   rw [Af h3,Ab (fun h=>h3 (by rw [h]))]
  rw [Af h2,Ab (fun h=>h2 (by rw [h]))]
 rw [Af h1,Ab (fun h=>h1 (by rw [h]))]
theorem Qil {N:Nat} (hN:800000000≤N) {f:Zg} (hl:f.Values.length≤6):∀ (n i:Nat),i≤f.Values.length→f.Values.length - i<n→∃ b,Z9 N f n (i:Int)=some b∧(b=true→∀ x∈f.Values.drop i,x.sz≤40∧x.txt)
 | 0,i,_,h=>by omega
 | n+1,i,hi,hn=>by
  simp only [Z9,Q2i,Qka,Jd,Q6t]
  by_cases h:i<f.Values.length
  ·rw [Af (by omega),Lc h];obtain ⟨b1,l1,l2⟩:=Qom N f.Values[i] (by omega);simp only [Lh,l1]
   cases b1 with
   | false=>exact ⟨false,rfl,fun h=>by cases h⟩
   | true=>
    rw [Q7m _ (by omega)];obtain ⟨b,e1,e2⟩:=Qil hN hl n (i+1) (by omega) (by omega);refine ⟨b,?_,fun hb x hx=>?_⟩
    ·simp only [Be,Ll,Al];exact_mod_cast e1
    rw [Nd h] at hx
    rcases Mm.1 hx with rfl | hx
    ·exact l2 rfl
    exact e2 hb x hx
  rw [Ae (by omega),Mk (by omega)];exact ⟨true,rfl,fun _ x hx=>by cases hx⟩
theorem Qkn {N:Nat} (hN:800000000≤N) (f:Zg):∃ b,Y2 N f=some b∧(b=true→f.Values.length≤6∧f.Ext.length≤1100∧∀ x∈f.Values,x.sz≤40∧x.txt):=by
 simp only [Y2,Q2i,Qyh,Jd]
 by_cases h1:(f.Values.length:Int)>6
 ·rw [Af h1];exact ⟨false,rfl,fun h=>by cases h⟩
 rw [Ae h1]
 by_cases h2:(f.Ext.length:Int)>1100
 ·rw [Af h2];exact ⟨false,rfl,fun h=>by cases h⟩
 rw [Ae h2];obtain ⟨b,e1,e2⟩:=Qil hN (f:=f) (by omega) N 0 (by omega) (by omega);refine ⟨b,by exact_mod_cast e1,fun hb=>⟨by omega,by omega,?_⟩⟩;have:=e2 hb
 rwa [Ng] at this
theorem Qeq:∀ (l:List Q0),(∀ x∈l,x.sz≤40∧x.txt)→Q0.szs l≤40 * l.length∧Q0.wgts l≤17200 * l.length
 | [],_=>by simp [Q0.szs,Q0.wgts]
 | x::m,h=>by
  have h1:=h x (.head _);have h2:=Qeq m (fun y hy=>h y (.tail _ hy));have h3:=Qvx x h1.2;simp only [Q0.szs,Q0.wgts,Ly];omega
theorem Qu4 {f:Zg} (hl:f.Values.length≤6) (h:∀ x∈f.Values,x.sz≤40∧x.txt) (hv:∀ x∈f.Values,OkV x):FB f:=by
 obtain ⟨h1,h2⟩:=Qeq _ h;exact ⟨fun x hx=>Qw6 x (hv x hx) (h x hx).2,by omega,by omega⟩
end
end Go.Av
namespace Go.Av
noncomputable section
theorem Qbi (x y:List UInt8):Q0k .eql x y=decide (x=y):=by
 show (x == y)=_
 by_cases h:x=y
 ·rw [h];simp
 rw [Ab h];exact beq_eq_false_iff_ne.2 h
theorem Qmp (x y:List UInt8):Q0k .neq x y=decide (x≠y):=by
 show (!(x == y))=_
 by_cases h:x=y
 ·rw [h];simp
 rw [Ad h,beq_eq_false_iff_ne.2 h];rfl
section
variable {T:Type}
theorem Qdi {L:Nat→Nat→Int→Option Bool} {a b:List T} {eq:T→T→Bool} (heq:∀ x y,eq x y=true↔x=y) (hab:a.length=b.length) (hm:a.length≤maxLen)
  (Z5:∀ N n (i:Nat) (h:i<a.length) (h':i<b.length),L N (n+1) (i:Int)=cond (!(eq a[i] b[i])) (some false) (L N n (wrap .i64 ((i:Int)+1)))) (fin:∀ N n,L N (n+1) (a.length:Int)=some true) :
  TotP (fun N=>L N N 0) (fun v=>v=true↔a=b):=by
 have hml:=Q3n;refine Q35 (L:=L) a.length (fun i=>∀ j (h:j<a.length) (h':j<b.length),j<i→a[j]=b[j]) (fun i hi hj=>?_) (fun hj=>?_) (fun j _ _ hj=>by omega)
 ·have e:(fun N n=>L N (n+1) (i:Int))=fun N n=>cond (!(eq (a[i]'hi) (b[i]'(by omega)))) (some false) (L N n (wrap .i64 ((i:Int)+1))):=by
   funext N n;exact Z5 N n i hi (by omega)
  rw [e,w64 _ (by omega)];refine Stp.cond (fun h=>Stp.ret ?_) (fun h=>Stp.go (L:=L) _ ⟨by omega,fun j hj1 hj2 hji=>?_⟩)
  ·have h:¬ eq (a[i]'hi) (b[i]'(by omega))=true:=by simpa using h
   refine ⟨fun h=>(by cases h),fun e=>absurd ((heq _ _).2 ?_) h⟩;subst e;rfl
  have h:eq (a[i]'hi) (b[i]'(by omega))=true:=by simpa using h
  by_cases e:j=i
  ·subst e;exact (heq _ _).1 h
  exact hj j hj1 hj2 (by omega)
 have e:(fun N n=>L N (n+1) (a.length:Int))=fun _ _=>some true:=by funext N n;exact fin N n
 rw [e];exact Stp.ret ⟨fun _=>List.ext_getElem hab (fun j h1 h2=>hj j h1 h2 h1),fun _=>rfl⟩
end
theorem Qyd {x y:Z8}:(((x.ID:Int) == y.ID)&&(((x.N':Int) == y.N')&&(((x.Text:List UInt8) == y.Text)&&(((x.Value:List UInt8) == y.Value)&&true))))=true↔x=y:=by
 cases x;cases y;simp
theorem Zey {x y:Wz}:(((x.Radius:Int) == y.Radius)&&(((x.Node:List UInt8) == y.Node)&&true))=true↔x=y:=by
 cases x;cases y;simp
theorem Qqe {x y:Qx}:(((x.Topic:List UInt8) == y.Topic)&&(((x.QoS:Int) == y.QoS)&&(((x.NoLocal:Bool) == y.NoLocal)&&(((x.AsPublished:Bool) == y.AsPublished)&&(((x.Handling:Int) == y.Handling)&&true)))))=true↔x=y:=by
 cases x;cases y;simp
theorem Qag (a b:List Z8) (ha:a.length≤maxLen):TotP (fun N=>Wa N a b) (fun v=>v=true↔a=b):=by
 unfold Wa;rw [Q6,Q6,X4];refine TotP.cond (fun h => .ret ⟨fun h=>(by cases h),fun e=>?_⟩) (fun h=>?_)
 ·have:=Aa h;subst e;exact absurd rfl this
 have h:=Ac h
 have hab:a.length=b.length:=by omega
 refine Qdi (L:=fun N n i=>Xe N a b n i) (eq:=fun x y=>((x.ID:Int) == y.ID)&&(((x.N':Int) == y.N')&&(((x.Text:List UInt8) == y.Text)&&(((x.Value:List UInt8) == y.Value)&&true)))) (fun _ _=>Qyd) hab ha (fun N n i h h'=>?_) (fun N n=>?_)
 ·show cond (Q5 .lss (i:Int) ((Q8 Z8.cells a).length:Int)) ((idx a (i:Int)).bind _) _=_;rw [Q6,Ql,Ad (by omega),Qr h,Qr h'];rfl
 show cond (Q5 .lss (a.length:Int) ((Q8 Z8.cells a).length:Int)) _ _=_;rw [Q6,Ql,Ab (by omega)];rfl
theorem Qea (a b:List Qx) (ha:a.length≤maxLen):TotP (fun N=>Wj N a b) (fun v=>v=true↔a=b):=by
 unfold Wj;rw [Q6,Q6,X4];refine TotP.cond (fun h => .ret ⟨fun h=>(by cases h),fun e=>?_⟩) (fun h=>?_)
 ·have:=Aa h;subst e;exact absurd rfl this
 have h:=Ac h
 have hab:a.length=b.length:=by omega
 refine Qdi (L:=fun N n i=>Yu N a b n i) (eq:=fun x y=>((x.Topic:List UInt8) == y.Topic)&&(((x.QoS:Int) == y.QoS)&&(((x.NoLocal:Bool) == y.NoLocal)&&(((x.AsPublished:Bool) == y.AsPublished)&&(((x.Handling:Int) == y.Handling)&&true))))) (fun _ _=>Qqe) hab ha (fun N n i h h'=>?_) (fun N n=>?_)
 ·show cond (Q5 .lss (i:Int) ((Q8 Qx.cells a).length:Int)) ((idx a (i:Int)).bind _) _=_;rw [Q6,Ql,Ad (by omega),Qr h,Qr h'];rfl
 show cond (Q5 .lss (a.length:Int) ((Q8 Qx.cells a).length:Int)) _ _=_;rw [Q6,Ql,Ab (by omega)];rfl
theorem Qkt (a b:List Int) (ha:a.length≤maxLen):TotP (fun N=>Gb N a b) (fun v=>v=true↔a=b):=by
 unfold Gb;rw [Q6,Q6,X4];refine TotP.cond (fun h => .ret ⟨fun h=>(by cases h),fun e=>?_⟩) (fun h=>?_)
 ·have:=Aa h;subst e;exact absurd rfl this
 have h:=Ac h
 have hab:a.length=b.length:=by omega
 refine Qdi (L:=fun N n i=>Vc N a b n i) (eq:=fun x y=>Q5 .eql x y) (fun x y=>by rw [Ym];exact decide_eq_true_iff) hab ha (fun N n i h h'=>?_) (fun N n=>?_)
 ·show cond (Q5 .lss (i:Int) ((Q8 (cI .i64) a).length:Int)) ((idx a (i:Int)).bind _) _=_;rw [Q6,Ql,Ad (by omega),Qr h,Qr h'];rfl
 show cond (Q5 .lss (a.length:Int) ((Q8 (cI .i64) a).length:Int)) _ _=_;rw [Q6,Ql,Ab (by omega)];rfl
structure Qvs (p:Qp):Prop where
 codes:p.Codes.length≤maxLen
 filters:p.Filters.length≤maxLen
 props:p.Props.length≤maxLen
 wprops:p.Will.Props.length≤maxLen
theorem Qhm (a b:U5) (ha:a.Props.length≤maxLen):TotP (fun N=>G4 N a b) (fun v=>v=true↔a=b):=by
 obtain ⟨t,p,q,r,l⟩:=a;obtain ⟨t',p',q',r',l'⟩:=b;unfold G4;dsimp only;rw [Qbi,Qbi,Ym];refine TotP.cond (fun h1=>?_) (fun h1 => .ret ⟨fun h=>(by cases h),fun e=>?_⟩)
 ·refine TotP.cond (fun h2=>?_) (fun h2 => .ret ⟨fun h=>(by cases h),fun e=>?_⟩)
  ·refine TotP.cond (fun h3=>?_) (fun h3 => .ret ⟨fun h=>(by cases h),fun e=>?_⟩)
   ·refine TotP.cond (fun h4=>?_) (fun h4 => .ret ⟨fun h=>(by cases h),fun e=>?_⟩)
    ·refine TotP.bind (Qag l l' ha) (fun v hv => .ret ?_);rw [hv];have h1:=Aa h1;have h2:=Aa h2;have h3:=Aa h3;have h4:=eq_of_beq h4;subst h1 h2 h3 h4;simp
    injection e with _ _ _ e _;subst e;simp at h4
   injection e with _ _ e _ _;exact absurd e (Ac h3)
  injection e with _ e _ _ _;exact absurd e (Ac h2)
 injection e with e _ _ _ _;exact absurd e (Ac h1)
theorem Qjc (a b:Qp) (ha:Qvs a):TotP (fun N=>Q3h N a b) (fun v=>v=true↔a=b):=by
 unfold Q3h;refine TotP.bindE (.of fun N=>rfl) ?_;refine TotP.bindE (.of fun N=>rfl) ?_;refine TotP.cond (fun h1=>?_) (fun h1 => .ret ⟨fun h=>(by cases h),fun e=>?_⟩)
 ·refine TotP.bind (Qhm a.Will b.Will ha.wprops) (fun v2 h2=>?_);refine TotP.cond (fun e2=>?_) (fun e2 => .ret ⟨fun h=>(by cases h),fun e=>?_⟩)
  ·refine TotP.bind (Qkt a.Codes b.Codes ha.codes) (fun v3 h3=>?_);refine TotP.cond (fun e3=>?_) (fun e3 => .ret ⟨fun h=>(by cases h),fun e=>?_⟩)
   ·refine TotP.bind (Qea a.Filters b.Filters ha.filters) (fun v4 h4=>?_);refine TotP.cond (fun e4=>?_) (fun e4 => .ret ⟨fun h=>(by cases h),fun e=>?_⟩)
    ·refine TotP.bind (Qag a.Props b.Props ha.props) (fun v5 h5 => .ret ?_);rw [h5];have e2:=h2.1 e2;have e3:=h3.1 e3;have e4:=h4.1 e4;obtain ⟨a1,a2,a3,a4,a5,a6,a7,a8,a9,a10,a11,a12,a13,a14,a15,a16,a17,a18,a19,a20,a21⟩:=a;obtain ⟨b1,b2,b3,b4,b5,b6,b7,b8,b9,b10,b11,b12,b13,b14,b15,b16,b17,b18,b19,b20,b21⟩:=b;dsimp only at e2 e3 e4 ⊢;simp at h1;simp [h1,e2,e3,e4]
    subst e;exact absurd (h4.2 rfl) (by rw [e4];simp)
   subst e;exact absurd (h3.2 rfl) (by rw [e3];simp)
  subst e;exact absurd (h2.2 rfl) (by rw [e2];simp)
 subst e;simp at h1
end
end Go.Av
namespace Go.Av
noncomputable section
theorem Qgp (n:Int) (size:Nat) (h0:1≤size) (h16:size≤16):TotP (fun N=>Yf N n (size:Int)) (fun l=>l.length=size):=by
 show TotP (fun N=>cond (Q5 .leq (size:Int) 0) _ _) _;rw [Vd];refine TotP.cond (fun h=>by have:=Aa h;omega) (fun _=>?_)
 have hm:ifB (decide (16<(size:Int))) (16:Int) (size:Int)=(size:Int):=by rw [Ab (by omega)];rfl
 rw [hm];refine TotP.chk (by simp only [Lb,Ag];omega) ?_;have:=Q60 (L:=fun N n' (p:Int×List Int)=>Xb N n (size:Int) n' p.1 p.2) (Q:=fun l:List UInt8=>l.length=size) (fun p=>∃ i:Nat,p.1=(i:Int)∧i≤size∧p.2.length=size) (fun p=>size - p.1.toNat)
  ?_ (0,List.replicate ((size:Int).toNat) 0) ⟨0,rfl,by omega,by simp⟩
 ·exact this
 rintro ⟨s,l⟩ ⟨i,hs,hi,hl⟩
 simp only at hs hl
 subst hs;show Stp _ _ _ (fun N n'=>cond (Q5 .lss (i:Int) (ifB (decide (16<(size:Int))) 16 (size:Int))) _ _);rw [hm,Ql,Ql];refine Stp.cond (fun h=>?_) (fun h=>?_)
 ·have h:=Aa h
  have e1:wrap .i64 ((i:Int)+1)=((i+1:Nat):Int):=by rw [w64 _ (by omega)];omega
  refine Stp.cond (fun h8=>?_) (fun h8=>?_)
  ·have h8:=Aa h8;refine Stp.chk ?_ ?_
   ·rw [w64 (8 * (i:Int)) (by omega)]
    have:i=0∨i=1∨i=2∨i=3∨i=4∨i=5∨i=6∨i=7:=by omega
    rcases this with rfl | rfl | rfl | rfl | rfl | rfl | rfl | rfl<;>rfl
   have e2:wrap .i64 (wrap .i64 ((size:Int) - 1) - (i:Int))=((size - 1 - i:Nat):Int):=by rw [w64 ((size:Int) - 1) (by omega),w64 _ (by omega)];omega
   rw [e1,e2];refine Stp.idx (Qr (show size - 1 - i<l.length by omega)) ?_;refine Stp.go (L:=fun N n' (p:Int×List Int)=>Xb N n (size:Int) n' p.1 p.2) (_,_) ⟨⟨i+1,rfl,by omega,by simp [hl]⟩,?_⟩;simp only [Lx];omega
  rw [e1];refine Stp.go (L:=fun N n' (p:Int×List Int)=>Xb N n (size:Int) n' p.1 p.2) (_,_) ⟨⟨i+1,rfl,by omega,hl⟩,?_⟩;simp only [Lx];omega
 exact Stp.ret (by simp [hl])
theorem Qk7 {R:Type} {f:Nat→Option R} {r:R} (h:Tot f r):Any f:=⟨r,trivial,h⟩
theorem TotP.any {R:Type} {f:Nat→Option R} {Q:R→Prop} (h:TotP f Q):Any f:=h.mono fun _ _=>trivial
theorem Z0l {k:Int} (h:0≤k∧k≤18446744073709551615):wrap .u64 k=k:=IntWalk.u64_in k h
theorem Qsl (r:Qo) (k:Int):Any (fun N=>Vv N r k):=by
 unfold Vv;rw [Us,Vd];refine TotP.cond (fun h1=>?_) (fun _ => .ret trivial);refine TotP.cond (fun h2=>?_) (fun _ => .ret trivial);have h1:=Aa h1;have h2:=Aa h2;exact TotP.chk (by rw [Z0l (by omega),Ag];omega) (.ret trivial)
theorem Qnz (r:Qo) (k:Int) (p:Z8) (h1:p.Text.length≤maxLen):Any (fun N=>Jx N r k p):=by
 refine TotP.bind (Qsl r k) (fun _ _=>?_)
 have num:Any (fun N=>Ue N r p):=by
  unfold Ue
  repeat' first
   | exact TotP.ret trivial
   | refine TotP.cond (fun _=>?_) (fun _=>?_)
 have hV:∀ s,Any (fun N=>Xa N s):=fun s=>Qk7 (Qhg s);have hN:Any (fun N=>Yx N p.Text):=Qk7 (Q75 _ h1)
 repeat' first
  | exact TotP.ret trivial
  | refine TotP.cond (fun _=>?_) (fun _=>?_)
  | refine TotP.bind (by first | exact hV _ | exact hN | exact num) (fun _ _=>?_)
theorem Qnt (k i:Int):Any (fun N=>Q0j N k i):=by
 unfold Q0j
 repeat' first
  | exact TotP.ret trivial
  | refine TotP.cond (fun _=>?_) (fun _=>?_)
theorem Qr7 (k:Int) (p:Z8):Tot (fun N=>Jx N ⟨0,0,0,0⟩ k p) 9:=by
 refine .of fun N=>?_
 have e:Vv N ⟨0,0,0,0⟩ k=some false:=by
  unfold Vv;rw [Us,Vd]
  by_cases h1:k≥1
  ·by_cases h2:k≤16
   ·rw [Ad h1,Ad h2]
    have:k=1∨k=2∨k=3∨k=4∨k=5∨k=6∨k=7∨k=8∨k=9∨k=10∨k=11∨k=12∨k=13∨k=14∨k=15∨k=16:=by omega
    rcases this with rfl | rfl | rfl | rfl | rfl | rfl | rfl | rfl | rfl | rfl | rfl | rfl | rfl | rfl | rfl | rfl<;>rfl
   rw [Ad h1,Ab h2];rfl
  rw [Ab h1];rfl
 unfold Jx;rw [e];rfl
def Qu0 (k:Int) (l:List Z8) (N n:Nat) (p:Int×List Int×List Int):Option (List UInt8×Int):=Zi N k l n p.1 p.2.1 p.2.2
theorem Qo7 (k:Int) (l:List Z8) (hl:l.length≤30) (hp:∀ p∈l,p.Text.length≤maxLen) (a:List Int) (ha:a.length=64):TotP (fun N=>Zi N k l N 0 a []) (fun r=>r.1.length≤9000000000):=by
 have:=Q60 (L:=Qu0 k l) (Q:=fun r=>r.1.length≤9000000000) (fun p=>∃ i:Nat,p.1=(i:Int)∧i≤l.length∧p.2.1.length=64∧p.2.2.length≤i * 268600000) (fun p=>l.length - p.1.toNat)
  ?_ (0,a,[]) ⟨0,rfl,by omega,ha,by simp⟩
 ·exact this
 rintro ⟨s,b,o⟩ ⟨i,hs,hi,hb,ho⟩
 simp only at hs hb ho
 subst hs;show Stp _ _ _ (fun N n'=>cond (Q5 .lss (i:Int) ((Q8 Z8.cells l).length:Int)) _ _);rw [Q6,Ql];refine Stp.cond (fun h=>?_) (fun h=>?_)
 ·have h:=Aa h
  have hi:i<l.length:=by omega
  refine Stp.idx (Qr hi) ?_;have hT:=hp _ (Mi hi);generalize l[i]=y at hT
  have e1:wrap .i64 ((i:Int)+1)=((i+1:Nat):Int):=by rw [w64 _ (by omega)];omega
  have go:∀ (b' o':List Int),b'.length=64→o'.length≤(i+1) * 268600000→Stp (Qu0 k l) (fun s'=>(∃ i:Nat,s'.1=(i:Int)∧i≤l.length∧s'.2.1.length=64∧s'.2.2.length≤i * 268600000)∧l.length - s'.1.toNat<l.length - (i:Int).toNat) (fun r=>r.1.length≤9000000000) (fun N n=>Zi N k l n (wrap .i64 ((i:Int)+1)) b' o'):=by
   intro b' o' h1 h2;rw [e1];exact Stp.go (L:=Qu0 k l) ((i+1:Nat),b',o') ⟨⟨i+1,rfl,by omega,h1,h2⟩,by simp only [Lx];omega⟩
  show Stp _ _ _ (fun N n=>optC (Q6o F_prop_rules_tab y.ID) _ _)
  cases hk:Q6o F_prop_rules_tab y.ID with
  | none=>
   refine Stp.optN ?_;refine Stp.bind (V:=(· = 9)) ⟨9,rfl,Qr7 k y⟩ (fun v hv=>?_);subst hv;exact Stp.cond (fun _=>Stp.ret (by simp)) (fun h=>nomatch h)
  | some r=>
   have hid:=Qtf hk;obtain ⟨q,hk'⟩:∃ q:Nat,y.ID=(q:Int):=⟨y.ID.toNat,by omega⟩
   have hk64:q<64:=by omega
   refine Stp.optS ?_;refine Stp.bind (Qnz r k y hT) (fun v _=>?_);refine Stp.cond (fun _=>Stp.ret (by simp)) (fun _=>?_);refine Stp.chk (by rw [hk'];simp only [Lb,Ag];omega) ?_;rw [hk'];refine Stp.idx (Qr (show q<b.length by omega)) ?_;refine Stp.idx (Qr (show q<b.length by omega)) ?_;refine Stp.idx (Qr (show q<(b.set _ _).length by rw [Mw];omega)) ?_
   have hb':∀ x y,(b.set x y).length=64:=fun x y=>by rw [Mw];exact hb
   have tail:Stp (Qu0 k l) (fun s'=>(∃ i:Nat,s'.1=(i:Int)∧i≤l.length∧s'.2.1.length=64∧s'.2.2.length≤i * 268600000)∧l.length - s'.1.toNat<l.length - (i:Int).toNat) (fun r=>r.1.length≤9000000000)
     (fun N n=>cond (Nat.ble ((o.length+1+4096) * 1) 17592186044416) ((Ux N r.shape y).bind fun v130=>
      cond (Nat.beq v130.length 0)
      (Zi N k l n (wrap .i64 ((i:Int)+1)) (b.set (Int.toNat (q:Int)) (wrap .i64 (b[q]+1))) (o ++ [(wrap .u8 (q:Int))]))
      (cond (Nat.ble (((o.length+1)+v130.length+4096) * 1) 17592186044416) (Zi N k l n (wrap .i64 ((i:Int)+1)) (b.set (Int.toNat (q:Int)) (wrap .i64 (b[q]+1))) ((o ++ [(wrap .u8 (q:Int))])++(v130.map fun b=>(b.toNat:Int)))) none)) none):=by
    refine Stp.chk (by rw [Lu];omega) ?_;refine Stp.bind (Qq7 _ _) (fun v hv=>?_);refine Stp.cond (fun _=>go _ _ (hb' _ _) (by simp only [Lq,Ly,Mg];omega)) (fun _=>?_);refine Stp.chk (by rw [Lu];omega) ?_;exact go _ _ (hb' _ _) (by simp only [Lq,Ly,Mg,Mf];omega)
   refine Stp.cond (fun _=>?_) (fun _=>tail);refine Stp.bind (Qnt _ _) (fun v _=>?_);exact Stp.cond (fun _=>Stp.ret (by simp)) (fun _=>tail)
 refine Stp.fin ?_
 have vb:TotP (fun N=>(Ui N (o.length:Int)).bind fun v169=>cond (Q5 .neq v169.2 0) (some (([]:List UInt8),(4:Int))) (cond (Nat.ble (v169.1.length+(o.map fun n=>UInt8.ofNat n.toNat).length) 4611686018427387904) (some ((v169.1++(o.map fun n=>UInt8.ofNat n.toNat)),0)) none)) (fun r=>r.1.length≤9000000000):=by
  refine TotP.bind (Qer _) (fun v hv=>?_);refine TotP.cond (fun _ => .ret (by simp)) (fun _=>?_);exact TotP.chk (by rw [Lu,Mf];omega) (.ret (by simp only [Lq,Mf];omega))
 refine TotP.idx (Qr (show 22<b.length by omega)) ?_;refine TotP.cond (fun _=>?_) (fun _=>vb);refine TotP.idx (Qr (show 21<b.length by omega)) ?_;exact TotP.cond (fun _ => .ret (by simp)) (fun _=>vb)
structure OkP (l:List Z8):Prop where
 len:l.length≤30
 txt:∀ p∈l,p.Text.length≤maxLen
theorem Qoo (k:Int) (l:List Z8) (h:OkP l):TotP (fun N=>Q27 N k l) (fun r=>r.1.length≤9000000000):=by
 unfold Q27;exact TotP.cond (fun _ => .ret (by simp)) (fun _=>Qo7 k l h.len h.txt _ rfl)
theorem Qnd (k:Int) (l:List Z8) (h:OkP l):Any (fun N=>We N k l):=TotP.bind (Qoo k l h) (fun _ _ => .ret trivial)
structure Qpk (p:Qp):Prop where
 l:Qvs p
 props:OkP p.Props
 wprops:OkP p.Will.Props
 topic:p.Topic.length≤2000
 payload:p.Payload.length≤2000
 client:p.Client.length≤2000
 user:p.User.length≤2000
 pass:p.Pass.length≤2000
 wtopic:p.Will.Topic.length≤2000
 wpayload:p.Will.Payload.length≤2000
 codes:p.Codes.length≤30
 filters:p.Filters.length≤30∧∀ f∈p.Filters,f.Topic.length≤2000
theorem ml2:2000≤maxLen:=by unfold maxLen;decide
section
variable {p:Qp} (h:Qpk p)
include h
end
end
end Go.Av
namespace Go.Av
noncomputable section
end
end Go.Av
namespace Go.Av
noncomputable section
theorem ml7:70000≤maxLen:=by unfold maxLen;decide
section
variable {p:Qp} (h:Qpk p)
include h
end
end
end Go.Av
namespace Go.Av
noncomputable section
section
variable {p:Qp} (h:Qpk p)
include h
end
end
end Go.Av
namespace Go.Av
noncomputable section
section
variable {p:Qp} (h:Qpk p)
include h
end
section
variable {p:Qp} (h:Qpk p)
include h
end
end
end Go.Av
namespace Go.Av
noncomputable section
theorem Qif (f:Qv):Any (fun N=>Gm N f):=by
 unfold Gm
 repeat' first
  | exact TotP.ret trivial
  | refine TotP.cond (fun _=>?_) (fun _=>?_)
theorem Qtl (k:Int):Any (fun N=>Q0x N k):=by
 unfold Q0x
 repeat' first
  | exact TotP.ret trivial
  | refine TotP.cond (fun _=>?_) (fun _=>?_)
theorem Qtr (k:Int) (f:Qv):Any (fun N=>Q3w N k f):=by
 have j6:∀ c1 c2 c3 c4 c5 c6,Any (fun N=>Js N c1 c2 c3 c4 c5 c6):=fun c1 c2 c3 c4 c5 c6=>TotP.ret trivial;have j5:∀ v c1 c2 c3 c4 c5,Any (fun N=>Jv N f v c1 c2 c3 c4 c5):=fun v c1 c2 c3 c4 c5=>TotP.cond (fun _=>j6 _ _ _ _ _ _) (fun _=>j6 _ _ _ _ _ _);have j4:∀ v c1 c2 c3 c4,Any (fun N=>G5 N f v c1 c2 c3 c4):=fun v c1 c2 c3 c4=>TotP.cond (fun _=>j5 _ _ _ _ _ _) (fun _=>j5 _ _ _ _ _ _);have j3:∀ v c1 c2 c3,Any (fun N=>Jz N f v c1 c2 c3):=fun v c1 c2 c3=>TotP.cond (fun _=>j4 _ _ _ _ _) (fun _=>j4 _ _ _ _ _);have j2:∀ v c1 c2,Any (fun N=>Ge N f v c1 c2):=fun v c1 c2=>TotP.cond (fun _=>j3 _ _ _ _) (fun _=>j3 _ _ _ _);have j1:∀ v c1,Any (fun N=>G6 N f v c1):=fun v c1=>TotP.cond (fun _=>j2 _ _ _) (fun _=>j2 _ _ _);have j0:∀ c1,Any (fun N=>Jr N k f c1):=fun c1=>TotP.cond (fun _ => .ret trivial) (fun _=>TotP.bind (Qtl k) (fun v _=>TotP.cond (fun _=>j1 _ _) (fun _=>j1 _ _)));exact TotP.bind (Qif f) (fun v _=>TotP.cond (fun _ => .ret trivial) (fun _=>TotP.cond (fun _=>j0 _) (fun _=>j0 _)))
structure Cd (B:Nat) (c:Qg):Prop where
 d:c.do'=1∨c.do'=2
 nm:c.m.Name.length≤70000
 da:c.m.Data.length≤70000
 ou:c.out.length≤B
theorem Cd.mono {B C:Nat} {c:Qg} (h:Cd B c) (hB:B≤C):Cd C c:=⟨h.d,h.nm,h.da,Mq h.ou hB⟩
theorem Cd.zero {B:Nat} {c:Qg} (h:Cd B c):Q5 .eql c.do' 0=false:=by
 have:=h.d;rw [Ym];exact Ab (by omega)
theorem Ql4 {v:List UInt8} {n:Nat} (h:v.length=n+1):(!(Nat.beq v.length 0))=true:=by rw [h];rfl
section
variable {B:Nat} {c:Qg} (h:Cd B c) (hB:B≤10000000)
include h hB
theorem Z15:TotP (fun N=>Yp N c) (fun r=>Cd (B+70000) r.2):=by
 have hz:=h.zero;have hd:=h.d;have hn:=h.nm;have ha:=h.da;have ho:=h.ou;unfold Yp;rw [hz]
 repeat' first
  | exact TotP.ret ⟨hd,by (first | (simp only [Mg];omega) | (dsimp only;omega) | omega),by (first | (simp only [Mg];omega) | (dsimp only;omega) | omega),by (first | (simp only [Lq,Mf];omega) | (dsimp only;omega) | omega)⟩
  | refine TotP.cond (fun e=>absurd e Lm) (fun _=>?_)
  | refine TotP.bind (Qgp _ 2 (by omega) (by omega)) (fun v hv=>TotP.chk (Ql4 hv) (TotP.chk (by rw [Lu];omega) ?_))
  | refine TotP.chk (by rw [Lu];omega) ?_
  | refine TotP.cond (fun _=>?_) (fun _=>?_)
theorem Qyl:TotP (fun N=>Z4 N c) (fun r=>Cd (B+70000) r.2):=by
 have hz:=h.zero;have hd:=h.d;have hn:=h.nm;have ha:=h.da;have ho:=h.ou;unfold Z4;rw [hz]
 repeat' first
  | exact TotP.ret ⟨hd,by (first | (simp only [Mg];omega) | (dsimp only;omega) | omega),by (first | (simp only [Mg];omega) | (dsimp only;omega) | omega),by (first | (simp only [Lq,Mf];omega) | (dsimp only;omega) | omega)⟩
  | refine TotP.cond (fun e=>absurd e Lm) (fun _=>?_)
  | refine TotP.bind (Qgp _ 2 (by omega) (by omega)) (fun v hv=>TotP.chk (Ql4 hv) (TotP.chk (by rw [Lu];omega) ?_))
  | refine TotP.chk (by rw [Lu];omega) ?_
  | refine TotP.cond (fun _=>?_) (fun _=>?_)
theorem Qtm:TotP (fun N=>Zx N c) (fun r=>Cd (B+70000) r.2):=by
 have hz:=h.zero;have hd:=h.d;have hn:=h.nm;have ha:=h.da;have ho:=h.ou;unfold Zx;refine TotP.bind (Qif _) (fun w _=>?_);rw [hz]
 repeat' first
  | exact TotP.ret ⟨hd,by (first | (simp only [Mg];omega) | (dsimp only;omega) | omega),by (first | (simp only [Mg];omega) | (dsimp only;omega) | omega),by (first | (simp only [Lq,Mf];omega) | (dsimp only;omega) | omega)⟩
  | refine TotP.cond (fun e=>absurd e Lm) (fun _=>?_)
  | refine TotP.bind (Qgp _ 1 (by omega) (by omega)) (fun v hv=>TotP.chk (Ql4 hv) (TotP.chk (by rw [Lu];omega) ?_))
  | refine TotP.chk (by rw [Lu];omega) ?_
  | refine TotP.cond (fun _=>?_) (fun _=>?_)
theorem Qwu:TotP (fun N=>X2 N c) (fun r=>Cd (B+70000) r.2):=by
 have hz:=h.zero;have hd:=h.d;have hn:=h.nm;have ha:=h.da;have ho:=h.ou;unfold X2;rw [hz];refine TotP.cond (fun e=>absurd e Lm) (fun _=>?_)
 refine TotP.cond (fun _=>?_) (fun _ => .ret ⟨hd,by (first | (simp only [Mg];omega) | (dsimp only;omega) | omega),by (first | (simp only [Mg];omega) | (dsimp only;omega) | omega),by (first | (simp only [Lq,Mf];omega) | (dsimp only;omega) | omega)⟩)
 refine TotP.cond (fun _ => .ret ⟨hd,by (first | (simp only [Mg];omega) | (dsimp only;omega) | omega),by (first | (simp only [Mg];omega) | (dsimp only;omega) | omega),by (first | (simp only [Lq,Mf];omega) | (dsimp only;omega) | omega)⟩) (fun _=>?_)
 exact TotP.chk (by rw [Lu];omega) (.ret ⟨hd,by (first | (simp only [Mg];omega) | (dsimp only;omega) | omega),by (first | (simp only [Mg];omega) | (dsimp only;omega) | omega),by (first | (simp only [Lq,Mf];omega) | (dsimp only;omega) | omega)⟩)
end
section
variable {B:Nat} {c:Qg} (h:Cd B c) (hB:B≤1000000)
include h hB
attribute [local irreducible] Yp Z4 Zx X2
end
section
variable {B:Nat} {c:Qg} (h:Cd B c) (hB:B≤1000)
include h hB
attribute [local irreducible] Yp Z4 Zx X2
end
structure OkM (m:Vi):Prop where
 nm:m.Name.length≤70000
 da:m.Data.length≤70000
section
variable {m:Vi} (h:OkM m)
include h
theorem cd0 (d:Int) (hd:d=1∨d=2):Cd 0 ⟨d,m,[],false⟩:=⟨hd,h.nm,h.da,Lj 0⟩
end
theorem Qj4 (k r:Int):TotP (fun N=>Wr N k r) (fun x=>x.1.length≤100):=by
 have h1:Any (fun N=>Jj N k):=by
  unfold Jj
  repeat' first
   | exact TotP.ret trivial
   | refine TotP.cond (fun _=>?_) (fun _=>?_)
 unfold Wr;refine TotP.bind h1 (fun _ _=>?_)
 repeat' first
  | exact TotP.ret (by simp only [Mg,Lq];omega)
  | refine TotP.bind (Q5i _ _) (fun v hv=>?_)
  | refine TotP.chk (by rw [Lu];(first | omega | (simp only [Lq];omega))) ?_
  | refine TotP.cond (fun _=>?_) (fun _=>?_)
section
variable {m:Vi} (h:OkM m)
include h
end
structure Z02 (d:Qm):Prop where
 hops:d.Hops.length≤30
 node:∀ x∈d.Hops,x.Node.length≤300
 msg:OkM d.Msg
section
variable {d:Qm} (h:Z02 d) (l:Xd)
include h
theorem Qok (v:List UInt8×Int) (hv:v.1.length≤800000):Any (fun N=>Xr N d l v N [] 0):=by
 have hc:=h.hops;refine Q60 (L:=fun N n (q:List UInt8×Int)=>Xr N d l v n q.1 q.2) (Q:=fun _=>True) (fun q=>∃ i:Nat,q.2=(i:Int)∧i≤d.Hops.length∧q.1.length≤i * 400) (fun q=>d.Hops.length - q.2.toNat) ?_ ([],0) ⟨0,rfl,by omega,by simp⟩
 rintro ⟨o,s⟩ ⟨i,hs,hi,hl⟩
 simp only at hs hl
 subst hs;show Stp _ _ _ (fun N n=>cond (Q5 .lss (i:Int) ((Q8 Wz.cells d.Hops).length:Int)) _ _);rw [Q6,Ql];dsimp only;refine Stp.cond (fun hx=>?_) (fun _=>Stp.cond (fun _=>Stp.ret trivial) (fun _=>Stp.chk (by rw [Lu];omega) (Stp.ret trivial)));have hx:=Aa hx
 have hi:i<d.Hops.length:=by omega
 refine Stp.idx (Qr hi) ?_;have hf:=h.node _ (Mi hi);generalize d.Hops[i]=y at hf
 have e1:wrap .i64 ((i:Int)+1)=((i+1:Nat):Int):=by rw [w64 _ (by omega)];omega
 refine Stp.bind (Ql8 y hf) (fun w hw=>?_);refine Stp.chk (by rw [Lu];omega) ?_;rw [e1];exact Stp.go (L:=fun N n (q:List UInt8×Int)=>Xr N d l v n q.1 q.2) (o++w,((i+1:Nat):Int)) ⟨⟨i+1,rfl,by omega,by simp only [Lq];omega⟩,by simp only [Lx];omega⟩
theorem Qem (v:List UInt8×Int) (hv:v.1.length≤800000):Any (fun N=>Y6 N d l v N [] 0):=by
 have hc:=h.hops;refine Q60 (L:=fun N n (q:List UInt8×Int)=>Y6 N d l v n q.1 q.2) (Q:=fun _=>True) (fun q=>∃ i:Nat,q.2=(i:Int)∧i≤d.Hops.length∧q.1.length≤i * 400) (fun q=>d.Hops.length - q.2.toNat) ?_ ([],0) ⟨0,rfl,by omega,by simp⟩
 rintro ⟨o,s⟩ ⟨i,hs,hi,hl⟩
 simp only at hs hl
 subst hs;show Stp _ _ _ (fun N n=>cond (Q5 .lss (i:Int) ((Q8 Wz.cells d.Hops).length:Int)) _ _);rw [Q6,Ql];dsimp only;refine Stp.cond (fun hx=>?_) (fun _=>Stp.cond (fun _=>Stp.ret trivial) (fun _=>Stp.chk (by rw [Lu];omega) (Stp.ret trivial)));have hx:=Aa hx
 have hi:i<d.Hops.length:=by omega
 refine Stp.idx (Qr hi) ?_;have hf:=h.node _ (Mi hi);generalize d.Hops[i]=y at hf
 have e1:wrap .i64 ((i:Int)+1)=((i+1:Nat):Int):=by rw [w64 _ (by omega)];omega
 refine Stp.bind (Ql8 y hf) (fun w hw=>?_);refine Stp.chk (by rw [Lu];omega) ?_;rw [e1];exact Stp.go (L:=fun N n (q:List UInt8×Int)=>Y6 N d l v n q.1 q.2) (o++w,((i+1:Nat):Int)) ⟨⟨i+1,rfl,by omega,by simp only [Lq];omega⟩,by simp only [Lx];omega⟩
end
end
end Go.Av
namespace Go.Av
noncomputable section
theorem Qpn (p:Qp) (h1:p.Filters.length≤maxLen) (h2:p.Props.length≤maxLen) (h3:p.Will.Props.length≤maxLen):TotP (fun N=>Ws N p) (fun v=>v=true→Qpk p):=by
 have hm:=Q3n
 have h30:300≤maxLen:=by unfold maxLen;decide
 have tail:(p.Filters.length≤30→∀ f∈p.Filters,f.Topic.length≤2000)→TotP (fun N=>cond (Q5 .leq (p.Topic.length:Int) 2000) (cond (Q5 .leq (p.Payload.length:Int) 2000) (cond (Q5 .leq (p.Client.length:Int) 2000) (cond (Q5 .leq (p.User.length:Int) 2000) (cond (Q5 .leq (p.Pass.length:Int) 2000)
  (cond (Q5 .leq (p.Will.Topic.length:Int) 2000) (cond (Q5 .leq (p.Will.Payload.length:Int) 2000) (cond (Q5 .leq ((Q8 (cI .i64) p.Codes).length:Int) 30) (cond (Q5 .leq (p.Filters.length:Int) 30)
  ((Za N p.Props).bind fun v26=>cond v26 ((Za N p.Will.Props).bind fun v29=>some v29) (some false)) (some false)) (some false)) (some false)) (some false)) (some false)) (some false)) (some false)) (some false)) (some false)) (fun v=>v=true→Qpk p):=by
  intro hf;rw [Q6]
  iterate 9 refine TotP.cond (fun _=>?_) (fun _ => .ret (fun h=>nomatch h))
  rename_i a1 a2 a3 a4 a5 a6 a7 a8 a9;rw [Vd] at a1 a2 a3 a4 a5 a6 a7 a8 a9;have a1:=Aa a1;have a2:=Aa a2;have a3:=Aa a3;have a4:=Aa a4;have a5:=Aa a5;have a6:=Aa a6;have a7:=Aa a7;have a8:=Aa a8;have a9:=Aa a9;refine TotP.bind (Qcv _ h2) (fun v hv=>TotP.cond (fun hv1=>?_) (fun _ => .ret (fun h=>nomatch h)));refine TotP.bind (Qcv _ h3) (fun w hw => .ret (fun hw1=>?_));have g1:=hv hv1;have g2:=hw hw1;exact ⟨⟨by omega,by omega,by omega,by omega⟩,⟨g1.1,fun x hx=>Mq (g1.2 x hx).1 h30⟩,⟨g2.1,fun x hx=>Mq (g2.2 x hx).1 h30⟩,by omega,by omega,by omega,by omega,by omega,by omega,by omega,by omega,by omega,hf (by omega)⟩
 refine Q35 (L:=fun N n s=>Zv N p n s) p.Filters.length (fun i=>∀ j (h:j<p.Filters.length),j<i→(p.Filters[j]).Topic.length≤2000) (fun i hi hj=>?_) (fun hj=>?_) (fun j _ hj=>by omega)
 ·show Stp _ _ _ (fun N n=>cond (Q5 .lss (i:Int) ((Q8 Qx.cells p.Filters).length:Int)) _ _);rw [Q6,Ql];refine Stp.cond (fun _=>?_) (fun h=>by have:=Ac h;omega);refine Stp.cond (fun _=>?_) (fun h=>Stp.fin (tail (fun hc=>?_)))
  ·refine Stp.idx (Qr hi) ?_;rw [Wx];refine Stp.cond (fun _=>Stp.ret (fun h=>nomatch h)) (fun h1=>?_);have h1:=Ac h1;rw [w64 _ (by omega)];refine Stp.go (L:=fun N n s=>Zv N p n s) _ ⟨by omega,fun j hj' hji=>?_⟩
   by_cases e:j=i
   ·subst e;omega
   exact hj j hj' (by omega)
  rw [Ql] at h;have:=Ac h;omega
 show Stp _ _ _ (fun N n=>cond (Q5 .lss (p.Filters.length:Int) ((Q8 Qx.cells p.Filters).length:Int)) _ _);rw [Q6,Ql];refine Stp.cond (fun h=>by have:=Aa h;omega) (fun _=>Stp.fin (tail (fun _ f hf=>?_)));obtain ⟨j,hj',rfl⟩:=Nh hf;exact hj j hj' hj'
theorem Qvv (d:Qm):TotP (fun N=>W4 N d) (fun v=>v=true→Z02 d):=by
 refine TotP.cond (fun _ => .ret (fun h=>nomatch h)) (fun h0=>?_);rw [Q6,Wx] at h0;have h0:=Ac h0;refine TotP.bind (V:=fun v=>v=true→OkM d.Msg) ?_ (fun v hv=>?_)
 ·show TotP (fun N=>cond (Q5 .leq (d.Msg.Name.length:Int) 70000) _ _) _;rw [Vd,Vd];refine TotP.cond (fun h1 => .ret (fun h2=>?_)) (fun _ => .ret (fun h=>nomatch h));have h1:=Aa h1;have h2:=Aa h2;exact ⟨by omega,by omega⟩
 refine TotP.cond (fun _ => .ret (fun h=>nomatch h)) (fun hn=>?_);have hM:=hv (by simpa using hn);refine Q35 (L:=fun N n s=>Zj N d n s) d.Hops.length (fun i=>∀ j (h:j<d.Hops.length),j<i→(d.Hops[j]).Node.length≤300) (fun i hi hj=>?_) (fun hj=>?_) (fun j _ hj=>by omega)
 ·show Stp _ _ _ (fun N n=>cond (Q5 .lss (i:Int) ((Q8 Wz.cells d.Hops).length:Int)) _ _);rw [Q6,Ql];refine Stp.cond (fun _=>?_) (fun h=>by have:=Ac h;omega);refine Stp.idx (Qr hi) ?_;rw [Wx];refine Stp.cond (fun _=>Stp.ret (fun h=>nomatch h)) (fun h1=>?_);have h1:=Ac h1;rw [w64 _ (by omega)];refine Stp.go (L:=fun N n s=>Zj N d n s) _ ⟨by omega,fun j hj' hji=>?_⟩
  by_cases e:j=i
  ·subst e;omega
  exact hj j hj' (by omega)
 show Stp _ _ _ (fun N n=>cond (Q5 .lss (d.Hops.length:Int) ((Q8 Wz.cells d.Hops).length:Int)) _ _);rw [Q6,Ql];refine Stp.cond (fun h=>by have:=Aa h;omega) (fun _=>Stp.ret (fun _=>⟨by omega,fun x hx=>?_,hM⟩));obtain ⟨j,hj',rfl⟩:=Nh hx;exact hj j hj' hj'
theorem Qt7 (f:Zg) (hv:∀ x∈f.Values,OkV x):TotP (fun N=>Y2 N f) (fun v=>v=true→FB f):=by
 obtain ⟨r,_,N0,h⟩:=Qr1 f;refine ⟨r,fun hr=>?_,N0,h⟩;obtain ⟨b,h1,h2⟩:=Qkn (N:=max N0 800000000) (by omega) f;rw [show Y2 (max N0 800000000) f=some r from h _ (by omega)] at h1;have:=h2 ((Am h1).symm.trans hr);exact Qu4 this.1 this.2.2 hv
structure LE (e:Qa):Prop where
 topic:e.Topic.length≤2000
 payload:e.Payload.length≤2000
 props:OkP e.Props
 pk:Qpk e.Packet
 dg:Z02 ⟨e.Hops,e.Msg⟩
 fb:FB e.Frame
theorem Qso (e:Qa) (h:OkE e) (hv:∀ x∈e.Frame.Values,OkV x):TotP (fun N=>V2 N e) (fun v=>v=true→LE e):=by
 have h30:300≤maxLen:=by unfold maxLen;decide
 refine TotP.cond (fun h1=>?_) (fun _ => .ret (fun h=>nomatch h));refine TotP.cond (fun h2=>?_) (fun _ => .ret (fun h=>nomatch h));rw [Vd] at h1 h2;have h1:=Aa h1;have h2:=Aa h2;refine TotP.bind (Qcv _ h.props) (fun v hv1=>?_);refine TotP.cond (fun h3=>?_) (fun _ => .ret (fun h=>nomatch h));refine TotP.bind (Qpn _ h.filters h.pprops h.wprops) (fun u hu=>?_);refine TotP.cond (fun hu1=>?_) (fun _ => .ret (fun h=>nomatch h));refine TotP.bind (Qvv _) (fun w hw=>?_);refine TotP.cond (fun h4=>?_) (fun _ => .ret (fun h=>nomatch h));refine TotP.bind (Qt7 _ hv) (fun x hx => .ret (fun h5=>?_));have g:=hv1 h3;exact ⟨by omega,by omega,⟨g.1,fun x hx=>Mq (g.2 x hx).1 h30⟩,hu hu1,hw h4,hx h5⟩
theorem Q6l (N:Nat) (s:List Z8) (h:s.length≤100000):Q0g N s=some s:=by
 unfold Q0g
 cases s with
 | nil=>rfl
 | cons x s=>
  have e:Nat.beq (x::s).length 0=false:=rfl
  have e2:Nat.ble ((0+(x::s).length+4096) * 48) 17592186044416=true:=by rw [Lu];omega
  rw [e,e2];rfl
theorem Qjz (N:Nat) (s:List Wz) (h:s.length≤100000):Q06 N s=some s:=by
 unfold Q06
 cases s with
 | nil=>rfl
 | cons x s=>
  have e:Nat.beq (x::s).length 0=false:=rfl
  have e2:Nat.ble ((0+(x::s).length+4096) * 24) 17592186044416=true:=by rw [Lu];omega
  rw [e,e2];rfl
theorem Qkf (N:Nat) (s:List Int) (h:s.length≤100000):Q5c N s=some s:=by
 unfold Q5c
 cases s with
 | nil=>rfl
 | cons x s=>
  have e:Nat.beq (x::s).length 0=false:=rfl
  have e2:Nat.ble ((0+(x::s).length+4096) * 8) 17592186044416=true:=by rw [Lu];omega
  rw [e,e2];rfl
theorem Qeh (N:Nat) (s:List Qx) (h:s.length≤100000):Q20 N s=some s:=by
 unfold Q20
 cases s with
 | nil=>rfl
 | cons x s=>
  have e:Nat.beq (x::s).length 0=false:=rfl
  have e2:Nat.ble ((0+(x::s).length+4096) * 40) 17592186044416=true:=by rw [Lu];omega
  rw [e,e2];rfl
theorem Ql6 (N:Nat) (p:Qp) (h:Qpk p):Q3i N p=some p:=by
 have h1:=h.codes;have h2:=h.filters.1;have h3:=h.props.len;have h4:=h.wprops.len;unfold Q3i;rw [Qkf N _ (by omega),Qeh N _ (by omega),Q6l N _ (by omega),Q6l N _ (by omega)];rfl
end
end Go.Av
namespace Go.Av
noncomputable section
structure Z09 (a:Qa):Prop where
 props:a.Props.length≤maxLen
 hops:a.Hops.length≤maxLen
 pk:Qvs a.Packet
 fr:Q0.szs a.Frame.Values<700000000
structure PubT (e:Qa) (c t b:Bool):Prop where
 known:e.Proto=1∨e.Proto=2∨e.Proto=3∨e.Proto=4
 kind:e.Kind=1
 qos:(0≤e.QoS∧e.QoS≤2)∨(e.Proto=3∧e.QoS = -1)
 id:0≤e.ID∧e.ID≤65535
 cid:c=decide (e.ID≠0)
 dup:e.Dup=true→c=true∨e.Proto=3
 props:0<e.Props.length→e.Proto=2
 ty:e.Proto=3→t=true
 ty2:e.Proto≠3→e.Type'=0∧e.Hops.length=0
 ch:0≤e.Channel∧e.Channel≤65535
 ch4:e.Channel≠0→e.Proto=4
 bare:b=true
theorem Qb8 {b:Bool} {x y:Option Int} {r:Option Int} (h1:b=true→x=r) (h2:b=false→y=r):cond b x y=r:=by
 cases b with
 | true=>exact h1 rfl
 | false=>exact h2 rfl
section
variable {N:Nat} {e:Qa} {t b:Bool} {v:Int} (hn:Yx N e.Topic=some true) (ht:J5 N e=some t) (hb:J0 N e=some b) (hv:We N 3 e.Props=some v)
include hn ht hb hv
end
end
end Go.Av
namespace Go.Av
noncomputable section
section
variable {R S T A:Type}
theorem TotP.succ {f g:Nat→Option R} {Q:R→Prop} (e:∀ N,f (N+1)=g N) (h:TotP g Q):TotP f Q:=by
 obtain ⟨r,hr,N0,hN⟩:=h;refine ⟨r,hr,N0+1,fun N h=>?_⟩;obtain ⟨M,rfl⟩:∃ M,N=M+1:=⟨N - 1,by omega⟩;rw [e];exact hN M (by omega)
end
theorem szs_app (l:List Q0) (v:Q0):Q0.szs (l ++ [v])=Q0.szs l+v.sz:=by
 induction l with
 | nil=>simp [Q0.szs]
 | cons w l ih=>simp only [Bb,Q0.szs,ih];omega
end
end Go.Av
namespace Go.Av
noncomputable section
end
end Go.Av
namespace Go.Av
noncomputable section
def sh1 (e:Qa):Qa:=⟨e.Proto,e.Kind,[],[],0,false,false,0,[],0,[],0,e.Packet,(⟨0,(⟨false,0,false,false,false,0⟩:Qv),0,0,0,false,0,0,0,[],[]⟩:Vi),(⟨0,0,[],[]⟩:Zg)⟩
def sh3 (e:Qa):Qa:=⟨e.Proto,e.Kind,[],[],0,false,false,0,[],0,e.Hops,0,(⟨0,false,false,0,0,[],[],false,0,[],false,[],false,[],false,(⟨[],[],0,false,[]⟩:U5),false,0,[],[],[]⟩:Qp),e.Msg,(⟨0,0,[],[]⟩:Zg)⟩
def sh4 (e:Qa):Qa:=⟨e.Proto,e.Kind,[],[],0,false,false,0,[],0,[],0,(⟨0,false,false,0,0,[],[],false,0,[],false,[],false,[],false,(⟨[],[],0,false,[]⟩:U5),false,0,[],[],[]⟩:Qp),(⟨0,(⟨false,0,false,false,false,0⟩:Qv),0,0,0,false,0,0,0,[],[]⟩:Vi),e.Frame⟩
structure Oth (e:Qa) (c:Int):Prop where
 a:e.Proto=1∨e.Proto=2→(c=0→sh1 e=e)∧(sh1 e≠e→c=2)∧(e.Packet.Kind=0→c≠0)
 b:e.Proto=3→(c=0→sh3 e=e)∧(sh3 e≠e→c=2)
 d:e.Proto=4→(c=0→sh4 e=e)∧(sh4 e≠e→c=2)
 f:c=0→e.Proto=1∨e.Proto=2∨e.Proto=3∨e.Proto=4
structure At (e:Qa) (l:Xd) (t b r:Bool) (v:Int):Prop where
 t:Tot (fun N=>J5 N e) t
 b:Tot (fun N=>J0 N e) b
 v:Tot (fun N=>We N 3 e.Props) v
 r:Tot (fun N=>Q2t N l) r
def cq (e:Qa):Bool:=cond (decide (e.QoS=1)) true (decide (e.QoS=2))
structure Ck (e:Qa) (l:Xd) (t b r:Bool) (v c:Int):Prop where
 zero:c=0→r=true
 pub0:e.Kind=1→c=0→Q1e e.Topic=true∧v=0∧PubT e (cq e) t b∧(e.Payload.length:Int)≤l.MaxPacket
 pub1:e.Kind=1→r=true→Q1e e.Topic=true→v=0→PubT e (cq e) t b→(e.Payload.length:Int)≤l.MaxPacket→c=0
 pub2:e.Kind=1→r=true→Q1e e.Topic=true→¬ PubT e (cq e) t b→c=2
 oth:e.Kind=2→r=true→Oth e c
 no:c=0→e.Kind=1∨e.Kind=2
theorem Qqt (N:Nat) (e:Qa):Ye N e=W7 N e (cq e):=by
 unfold Ye cq;rw [Ym,Ym];cases decide (e.QoS=1)<;>rfl
end
end Go.Av
namespace Go.Av
noncomputable section
theorem Q6n (a b:List Z8) (ha:a.length≤maxLen):TotP (fun N=>Xi N a b) (fun v=>v=true↔a=b):=by
 unfold Xi;rw [Q6,Q6,X4];refine TotP.cond (fun h => .ret ⟨fun h=>(by cases h),fun e=>?_⟩) (fun h=>?_)
 ·have:=Aa h;subst e;exact absurd rfl this
 have h:=Ac h
 have hab:a.length=b.length:=by omega
 refine Qdi (L:=fun N n i=>Xc N a b n i) (eq:=fun x y=>((x.ID:Int) == y.ID)&&(((x.N':Int) == y.N')&&(((x.Text:List UInt8) == y.Text)&&(((x.Value:List UInt8) == y.Value)&&true)))) (fun _ _=>Qyd) hab ha (fun N n i h h'=>?_) (fun N n=>?_)
 ·show cond (Q5 .lss (i:Int) ((Q8 Z8.cells a).length:Int)) ((idx a (i:Int)).bind _) _=_;rw [Q6,Ql,Ad (by omega),Qr h,Qr h'];rfl
 show cond (Q5 .lss (a.length:Int) ((Q8 Z8.cells a).length:Int)) _ _=_;rw [Q6,Ql,Ab (by omega)];rfl
theorem Qku (a b:List Wz) (ha:a.length≤maxLen):TotP (fun N=>Vg N a b) (fun v=>v=true↔a=b):=by
 unfold Vg;rw [Q6,Q6,X4];refine TotP.cond (fun h => .ret ⟨fun h=>(by cases h),fun e=>?_⟩) (fun h=>?_)
 ·have:=Aa h;subst e;exact absurd rfl this
 have h:=Ac h
 have hab:a.length=b.length:=by omega
 refine Qdi (L:=fun N n i=>Xf N a b n i) (eq:=fun x y=>((x.Radius:Int) == y.Radius)&&(((x.Node:List UInt8) == y.Node)&&true)) (fun _ _=>Zey) hab ha (fun N n i h h'=>?_) (fun N n=>?_)
 ·show cond (Q5 .lss (i:Int) ((Q8 Wz.cells a).length:Int)) ((idx a (i:Int)).bind _) _=_;rw [Q6,Ql,Ad (by omega),Qr h,Qr h'];rfl
 show cond (Q5 .lss (a.length:Int) ((Q8 Wz.cells a).length:Int)) _ _=_;rw [Q6,Ql,Ab (by omega)];rfl
theorem Qe5 (a b:List Qx) (ha:a.length≤maxLen):TotP (fun N=>W0 N a b) (fun v=>v=true↔a=b):=by
 unfold W0;rw [Q6,Q6,X4];refine TotP.cond (fun h => .ret ⟨fun h=>(by cases h),fun e=>?_⟩) (fun h=>?_)
 ·have:=Aa h;subst e;exact absurd rfl this
 have h:=Ac h
 have hab:a.length=b.length:=by omega
 refine Qdi (L:=fun N n i=>Yj N a b n i) (eq:=fun x y=>((x.Topic:List UInt8) == y.Topic)&&(((x.QoS:Int) == y.QoS)&&(((x.NoLocal:Bool) == y.NoLocal)&&(((x.AsPublished:Bool) == y.AsPublished)&&(((x.Handling:Int) == y.Handling)&&true))))) (fun _ _=>Qqe) hab ha (fun N n i h h'=>?_) (fun N n=>?_)
 ·show cond (Q5 .lss (i:Int) ((Q8 Qx.cells a).length:Int)) ((idx a (i:Int)).bind _) _=_;rw [Q6,Ql,Ad (by omega),Qr h,Qr h'];rfl
 show cond (Q5 .lss (a.length:Int) ((Q8 Qx.cells a).length:Int)) _ _=_;rw [Q6,Ql,Ab (by omega)];rfl
theorem Qjs (a b:List Int) (ha:a.length≤maxLen):TotP (fun N=>Vf N a b) (fun v=>v=true↔a=b):=by
 unfold Vf;rw [Q6,Q6,X4];refine TotP.cond (fun h => .ret ⟨fun h=>(by cases h),fun e=>?_⟩) (fun h=>?_)
 ·have:=Aa h;subst e;exact absurd rfl this
 have h:=Ac h
 have hab:a.length=b.length:=by omega
 refine Qdi (L:=fun N n i=>Xg N a b n i) (eq:=fun x y=>Q5 .eql x y) (fun x y=>by rw [Ym];exact decide_eq_true_iff) hab ha (fun N n i h h'=>?_) (fun N n=>?_)
 ·show cond (Q5 .lss (i:Int) ((Q8 (cI .i64) a).length:Int)) ((idx a (i:Int)).bind _) _=_;rw [Q6,Ql,Ad (by omega),Qr h,Qr h'];simp only [Lh,Ai,X4,Ym,decide_not]
 show cond (Q5 .lss (a.length:Int) ((Q8 (cI .i64) a).length:Int)) _ _=_;rw [Q6,Ql,Ab (by omega)];rfl
theorem Qaz (a b:Qp) (h:Qvs a):TotP (fun N=>Wb N a b) (fun v=>v=true↔a=b):=by
 unfold Wb;simp only [X4,Qmp];refine TotP.cond (fun g => .ret ⟨fun e=>absurd e Lm,fun e=>absurd g (by rw [e];simp)⟩) (fun g=>?_)
 have e0:a.Will.Topic=b.Will.Topic:=by simpa using g
 clear g;refine TotP.cond (fun g => .ret ⟨fun e=>absurd e Lm,fun e=>absurd g (by rw [e];simp)⟩) (fun g=>?_)
 have e1:a.Will.Payload=b.Will.Payload:=by simpa using g
 clear g;refine TotP.cond (fun g => .ret ⟨fun e=>absurd e Lm,fun e=>absurd g (by rw [e];simp)⟩) (fun g=>?_)
 have e2:a.Will.QoS=b.Will.QoS:=by simpa using g
 clear g;refine TotP.cond (fun g => .ret ⟨fun e=>absurd e Lm,fun e=>absurd g (by rw [e];simp)⟩) (fun g=>?_)
 have e3:a.Will.Retain=b.Will.Retain:=by simpa using g
 clear g;refine TotP.bind (Q6n _ _ h.wprops) (fun v hv=>?_);refine TotP.cond (fun g => .ret ⟨fun e=>absurd e Lm,fun e=>absurd (hv.2 (by rw [e])) (by simpa using g)⟩) (fun g=>?_);have e4:a.Will.Props=b.Will.Props:=hv.1 (by simpa using g);clear g hv;refine TotP.cond (fun g => .ret ⟨fun e=>absurd e Lm,fun e=>absurd g (by rw [e];simp)⟩) (fun g=>?_)
 have e5:a.Kind=b.Kind:=by simpa using g
 clear g;refine TotP.cond (fun g => .ret ⟨fun e=>absurd e Lm,fun e=>absurd g (by rw [e];simp)⟩) (fun g=>?_)
 have e6:a.Dup=b.Dup:=by simpa using g
 clear g;refine TotP.cond (fun g => .ret ⟨fun e=>absurd e Lm,fun e=>absurd g (by rw [e];simp)⟩) (fun g=>?_)
 have e7:a.Retain=b.Retain:=by simpa using g
 clear g;refine TotP.cond (fun g => .ret ⟨fun e=>absurd e Lm,fun e=>absurd g (by rw [e];simp)⟩) (fun g=>?_)
 have e8:a.QoS=b.QoS:=by simpa using g
 clear g;refine TotP.cond (fun g => .ret ⟨fun e=>absurd e Lm,fun e=>absurd g (by rw [e];simp)⟩) (fun g=>?_)
 have e9:a.ID=b.ID:=by simpa using g
 clear g;refine TotP.cond (fun g => .ret ⟨fun e=>absurd e Lm,fun e=>absurd g (by rw [e];simp)⟩) (fun g=>?_)
 have e10:a.Topic=b.Topic:=by simpa using g
 clear g;refine TotP.cond (fun g => .ret ⟨fun e=>absurd e Lm,fun e=>absurd g (by rw [e];simp)⟩) (fun g=>?_)
 have e11:a.Payload=b.Payload:=by simpa using g
 clear g;refine TotP.cond (fun g => .ret ⟨fun e=>absurd e Lm,fun e=>absurd g (by rw [e];simp)⟩) (fun g=>?_)
 have e12:a.Clean=b.Clean:=by simpa using g
 clear g;refine TotP.cond (fun g => .ret ⟨fun e=>absurd e Lm,fun e=>absurd g (by rw [e];simp)⟩) (fun g=>?_)
 have e13:a.KeepAlive=b.KeepAlive:=by simpa using g
 clear g;refine TotP.cond (fun g => .ret ⟨fun e=>absurd e Lm,fun e=>absurd g (by rw [e];simp)⟩) (fun g=>?_)
 have e14:a.Client=b.Client:=by simpa using g
 clear g;refine TotP.cond (fun g => .ret ⟨fun e=>absurd e Lm,fun e=>absurd g (by rw [e];simp)⟩) (fun g=>?_)
 have e15:a.HasUser=b.HasUser:=by simpa using g
 clear g;refine TotP.cond (fun g => .ret ⟨fun e=>absurd e Lm,fun e=>absurd g (by rw [e];simp)⟩) (fun g=>?_)
 have e16:a.User=b.User:=by simpa using g
 clear g;refine TotP.cond (fun g => .ret ⟨fun e=>absurd e Lm,fun e=>absurd g (by rw [e];simp)⟩) (fun g=>?_)
 have e17:a.HasPass=b.HasPass:=by simpa using g
 clear g;refine TotP.cond (fun g => .ret ⟨fun e=>absurd e Lm,fun e=>absurd g (by rw [e];simp)⟩) (fun g=>?_)
 have e18:a.Pass=b.Pass:=by simpa using g
 clear g;refine TotP.cond (fun g => .ret ⟨fun e=>absurd e Lm,fun e=>absurd g (by rw [e];simp)⟩) (fun g=>?_)
 have e19:a.HasWill=b.HasWill:=by simpa using g
 clear g;refine TotP.cond (fun g => .ret ⟨fun e=>absurd e Lm,fun e=>absurd g (by rw [e];simp)⟩) (fun g=>?_)
 have e20:a.Session=b.Session:=by simpa using g
 clear g;refine TotP.cond (fun g => .ret ⟨fun e=>absurd e Lm,fun e=>absurd g (by rw [e];simp)⟩) (fun g=>?_)
 have e21:a.Code=b.Code:=by simpa using g
 clear g;refine TotP.bind (Qjs _ _ h.codes) (fun v hv=>?_);refine TotP.cond (fun g=>?_) (fun g => .ret ⟨fun e=>absurd e Lm,fun e=>absurd (hv.2 (by rw [e])) (by rw [g];decide)⟩);have e22:a.Codes=b.Codes:=hv.1 g;clear g hv;refine TotP.bind (Qe5 _ _ h.filters) (fun v hv=>?_);refine TotP.cond (fun g=>?_) (fun g => .ret ⟨fun e=>absurd e Lm,fun e=>absurd (hv.2 (by rw [e])) (by rw [g];decide)⟩);have e23:a.Filters=b.Filters:=hv.1 g;clear g hv;refine TotP.bind (Q6n _ _ h.props) (fun v hv => .ret ⟨fun g=>?_,fun e=>hv.2 (by rw [e])⟩);have el:a.Props=b.Props:=hv.1 g;obtain ⟨a0,a1,a2,a3,a4,a5,a6,a7,a8,a9,a10,a11,a12,a13,a14,⟨w0,w1,w2,w3,w4⟩,a16,a17,a18,a19,a20⟩:=a;obtain ⟨b0,b1,b2,b3,b4,b5,b6,b7,b8,b9,b10,b11,b12,b13,b14,⟨x0,x1,x2,x3,x4⟩,b16,b17,b18,b19,b20⟩:=b
 simp_all
theorem Qny (x y:Vi):(((x.Type':Int) == y.Type')&&(((x.Flags.Dup:Bool) == y.Flags.Dup)&&(((x.Flags.QoS:Int) == y.Flags.QoS)&&(((x.Flags.Retain:Bool) == y.Flags.Retain)&&(((x.Flags.Will:Bool) == y.Flags.Will)&&(((x.Flags.Clean:Bool) == y.Flags.Clean)&&(((x.Flags.Type':Int) == y.Flags.Type')&&(((x.Gateway:Int) == y.Gateway)&&(((x.Radius:Int) == y.Radius)&&(((x.Time:Int) == y.Time)&&(((x.Timed:Bool) == y.Timed)&&(((x.TopicID:Int) == y.TopicID)&&(((x.MsgID:Int) == y.MsgID)&&(((x.Code:Int) == y.Code)&&(((x.Name:List UInt8) == y.Name)&&(((x.Data:List UInt8) == y.Data)&&true))))))))))))))))=true↔x=y:=by
 obtain ⟨a,⟨b,c,d,e,f,g⟩,h,i,j,k,l,m,n,o,p⟩:=x;obtain ⟨a',⟨b',c',d',e',f',g'⟩,h',i',j',k',l',m',n',o',p'⟩:=y;simp [and_assoc]
theorem Qgn (a b:Qa) (h:Z09 a):TotP (fun N=>Zr N a b) (fun v=>v=true↔a=b):=by
 unfold Zr;simp only [Ym,Qbi];refine TotP.cond (fun g=>?_) (fun g => .ret ⟨fun e=>absurd e Lm,fun e=>absurd g (by rw [e];simp)⟩)
 have e24:a.Proto=b.Proto:=by simpa using g
 clear g;refine TotP.cond (fun g=>?_) (fun g => .ret ⟨fun e=>absurd e Lm,fun e=>absurd g (by rw [e];simp)⟩)
 have e25:a.Kind=b.Kind:=by simpa using g
 clear g;refine TotP.cond (fun g=>?_) (fun g => .ret ⟨fun e=>absurd e Lm,fun e=>absurd g (by rw [e];simp)⟩)
 have e26:a.Topic=b.Topic:=by simpa using g
 clear g;refine TotP.cond (fun g=>?_) (fun g => .ret ⟨fun e=>absurd e Lm,fun e=>absurd g (by rw [e];simp)⟩)
 have e27:a.Payload=b.Payload:=by simpa using g
 clear g;refine TotP.cond (fun g=>?_) (fun g => .ret ⟨fun e=>absurd e Lm,fun e=>absurd g (by rw [e];simp)⟩)
 have e28:a.QoS=b.QoS:=by simpa using g
 clear g;refine TotP.cond (fun g=>?_) (fun g => .ret ⟨fun e=>absurd e Lm,fun e=>absurd g (by rw [e];simp)⟩)
 have e29:a.Retain=b.Retain:=by simpa using g
 clear g;refine TotP.cond (fun g=>?_) (fun g => .ret ⟨fun e=>absurd e Lm,fun e=>absurd g (by rw [e];simp)⟩)
 have e30:a.Dup=b.Dup:=by simpa using g
 clear g;refine TotP.cond (fun g=>?_) (fun g => .ret ⟨fun e=>absurd e Lm,fun e=>absurd g (by rw [e];simp)⟩)
 have e31:a.ID=b.ID:=by simpa using g
 clear g;refine TotP.bind (Q6n _ _ h.props) (fun v hv=>?_);refine TotP.cond (fun g=>?_) (fun g => .ret ⟨fun e=>absurd e Lm,fun e=>absurd (hv.2 (by rw [e])) (by rw [g];decide)⟩);have e32:a.Props=b.Props:=hv.1 g;clear g hv;refine TotP.cond (fun g=>?_) (fun g => .ret ⟨fun e=>absurd e Lm,fun e=>absurd g (by rw [e];simp)⟩)
 have e33:a.Type'=b.Type':=by simpa using g
 clear g;refine TotP.bind (Qku _ _ h.hops) (fun v hv=>?_);refine TotP.cond (fun g=>?_) (fun g => .ret ⟨fun e=>absurd e Lm,fun e=>absurd (hv.2 (by rw [e])) (by rw [g];decide)⟩);have e34:a.Hops=b.Hops:=hv.1 g;clear g hv;refine TotP.cond (fun g=>?_) (fun g => .ret ⟨fun e=>absurd e Lm,fun e=>absurd g (by rw [e];simp)⟩)
 have e35:a.Channel=b.Channel:=by simpa using g
 clear g;refine TotP.bind (Qaz _ _ h.pk) (fun v hv=>?_);refine TotP.cond (fun g=>?_) (fun g => .ret ⟨fun e=>absurd e Lm,fun e=>absurd (hv.2 (by rw [e])) (by rw [g];decide)⟩);have e36:a.Packet=b.Packet:=hv.1 g;clear g hv;refine TotP.cond (fun g=>?_) (fun g => .ret ⟨fun e=>absurd e Lm,fun e=>absurd ((Qny a.Msg b.Msg).2 (by rw [e])) (by rw [g];decide)⟩);have e37:a.Msg=b.Msg:=(Qny _ _).1 g;clear g;refine TotP.bind (V:=fun v=>v=true↔a.Frame=b.Frame) ⟨decide (a.Frame=b.Frame),decide_eq_true_iff,800000000,fun N hN=>Qao hN _ _ h.fr⟩ (fun v hv => .ret ⟨fun g=>?_,fun e=>hv.2 (by rw [e])⟩);have el:a.Frame=b.Frame:=hv.1 g;cases a;cases b
 simp_all
end
end Go.Av
namespace Go.Av
noncomputable section
def zPk:Qp:=⟨0,false,false,0,0,[],[],false,0,[],false,[],false,[],false,(⟨[],[],0,false,[]⟩:U5),false,0,[],[],[]⟩
def zMk:Vi:=⟨0,(⟨false,0,false,false,false,0⟩:Qv),0,0,0,false,0,0,0,[],[]⟩
def zFk:Zg:=⟨0,0,[],[]⟩
def zEk:Qa:=⟨0,0,[],[],0,false,false,0,[],0,[],0,zPk,zMk,zFk⟩
def Qn8 (h:Wz):Bool:=decide (0≤h.Radius∧h.Radius≤3∧1≤h.Node.length∧h.Node.length≤32)
def Q97 (l:List Wz):Bool:=decide (l.length≤4)&&l.all Qn8
theorem Qk8 (N:Nat) (h:Wz):Ut N h=some (Qn8 h):=by
 unfold Ut Qn8;rw [Us,Vd,Us,Vd]
 by_cases h1:h.Radius≥0<;>by_cases h2:h.Radius≤3<;>by_cases h3:(h.Node.length:Int)≥1<;>by_cases h4:(h.Node.length:Int)≤32<;>simp [h1,h2,h3,h4]<;>omega
def Qjo:Vi:=⟨23,(⟨false,0,false,false,false,0⟩:Qv),0,0,0,false,0,0,0,[],[]⟩
theorem Z10 (M:Nat):Vl (M+40) Qjo=some ([2,23],0):=by rfl
section
variable (l:List Wz) (hl:l.length≤30) (hn:∀ x∈l,x.Node.length≤300)
include hl hn
theorem Z1q (h4:l.length≤4):TotP (fun N=>Y6 N ⟨l,Qjo⟩ ⟨1048576,32⟩ ([2,23],0) N [] 0) (fun r=>r.2=0):=by
 refine Q60 (L:=fun N n (q:List UInt8×Int)=>Y6 N ⟨l,Qjo⟩ ⟨1048576,32⟩ ([2,23],0) n q.1 q.2) (fun q=>∃ i:Nat,q.2=(i:Int)∧i≤l.length∧q.1.length≤i * 400) (fun q=>l.length - q.2.toNat) ?_ ([],0) ⟨0,rfl,by omega,by simp⟩
 rintro ⟨o,s⟩ ⟨i,hs,hi,hq⟩
 simp only at hs hq
 subst hs;show Stp _ _ _ (fun N n=>cond (Q5 .lss (i:Int) ((Q8 Wz.cells l).length:Int)) _ _);rw [Q6,Ql];dsimp only;refine Stp.cond (fun hx=>?_) (fun _=>?_)
 ·have hx:=Aa hx
  have hi:i<l.length:=by omega
  refine Stp.idx (Qr hi) ?_;have hf:=hn _ (Mi hi);generalize l[i]=y at hf
  have e1:wrap .i64 ((i:Int)+1)=((i+1:Nat):Int):=by rw [w64 _ (by omega)];omega
  refine Stp.bind (Ql8 y hf) (fun w hw=>?_);refine Stp.chk (by rw [Lu];omega) ?_;rw [e1];exact Stp.go (L:=fun N n (q:List UInt8×Int)=>Y6 N ⟨l,Qjo⟩ ⟨1048576,32⟩ ([2,23],0) n q.1 q.2) (o++w,((i+1:Nat):Int)) ⟨⟨i+1,rfl,by omega,by simp only [Lq];omega⟩,by simp only [Lx];omega⟩
 have e2:wrap .i64 ((o.length:Int)+2)=(o.length:Int)+2:=w64 _ (by omega);refine Stp.cond (fun h=>?_) (fun _=>?_)
 ·have h:wrap .i64 ((o.length:Int)+2)>1048576:=by rw [Wx] at h;exact Aa h
  rw [e2] at h;omega
 exact Stp.chk (by rw [Lu];simp;omega) (Stp.ret rfl)
theorem Qlw:TotP (fun N=>Yg N ⟨l,Qjo⟩ ⟨1048576,32⟩) (fun v=>decide (v=0)=Q97 l):=by
 unfold Yg Gw;refine TotP.bind (V:=fun v=>decide (v.2=0)=Q97 l) ?_ (fun v hv => .ret hv);refine TotP.bindE (v:=true) (.of fun _=>rfl) ?_;refine TotP.cond (fun h=>by cases h) (fun _=>?_);show TotP (fun N=>cond (Q5 .gtr ((Q8 Wz.cells l).length:Int) 4) _ _) _;rw [Q6,Wx];refine TotP.cond (fun h => .ret ?_) (fun h4=>?_)
 ·have h:=Aa h;unfold Q97;rw [Ab (p:=l.length≤4) (by omega)];rfl
 have h4:l.length≤4:=by have:=Ac h4;omega
 have hb:Tot (fun N=>Vl N Qjo) ([2,23],0):=⟨40,fun N hN=>by obtain ⟨M,rfl⟩:∃ M,N=M+40:=⟨N - 40,by omega⟩;exact Z10 M⟩
 have fin:(∀ x∈l,Qn8 x=true)→TotP (fun N=>(Vl N Qjo).bind fun v53=>cond (Q5 .neq v53.2 0) (some ([],v53.2)) (Y6 N ⟨l,Qjo⟩ ⟨1048576,32⟩ v53 N [] 0)) (fun v=>decide (v.2=0)=Q97 l):=fun hA=>by
  refine TotP.bindE hb ?_;refine TotP.cond (fun h=>by cases h) (fun _=>?_);refine (Z1q l hl hn h4).mono fun r hr=>?_;unfold Q97;rw [hr,Ad h4,Lp.2 hA];rfl
 refine Q35 (L:=fun N n i=>Ys N ⟨l,Qjo⟩ ⟨1048576,32⟩ n i) l.length (fun i=>∀ j (h:j<l.length),j<i→Qn8 l[j]=true) (fun i hi hj=>?_) (fun hj=>?_) (fun j _ hj=>by omega)
 ·show Stp _ _ _ (fun N n=>cond (Q5 .lss (i:Int) ((Q8 Wz.cells l).length:Int)) _ _);rw [Q6,Ql];refine Stp.cond (fun _=>?_) (fun h=>by have:=Ac h;omega);refine Stp.idx (Qr hi) ?_;refine Stp.bind (V:=fun v=>v = !(Qn8 l[i])) ⟨_,rfl,.of fun N=>by unfold Jg;rw [Qk8];rfl⟩ (fun v hv=>?_);refine Stp.cond (fun h=>?_) (fun h=>?_)
  ·refine Stp.cond (fun _=>Stp.ret ?_) (fun h2=>?_)
   ·rw [hv] at h
    have:l.all Qn8=false:=by
     rw [Bool.eq_false_iff];intro hA;have:=Lp.1 hA _ (Mi hi);rw [this] at h;cases h
    unfold Q97;rw [this];simp
   rw [Us] at h2;exact absurd (Ac h2) (by omega)
  rw [w64 _ (by omega)];refine Stp.go (L:=fun N n i=>Ys N ⟨l,Qjo⟩ ⟨1048576,32⟩ n i) _ ⟨by omega,fun j hj' hji=>?_⟩
  by_cases e:j=i
  ·subst e;rw [hv] at h;simpa using h
  exact hj j hj' (by omega)
 show Stp _ _ _ (fun N n=>cond (Q5 .lss ((l.length:Nat):Int) ((Q8 Wz.cells l).length:Int)) _ _);rw [Q6,Ql];refine Stp.cond (fun h=>by have:=Aa h;omega) (fun _=>Stp.fin (fin fun x hx=>?_));obtain ⟨j,hj',rfl⟩:=Nh hx;exact hj j hj' hj'
end
def Q9v (s:List UInt8):Bool:=decide (s.length=2)&&Q1e s
def Qhb (e:Qa):Bool:=decide (0≤e.Type'∧e.Type'≤2)&&((!(decide (e.Type'=2))||Q9v e.Topic)&&Q97 e.Hops)
theorem Zl9 (s:List UInt8) (hs:s.length=2):TotP (fun N=>Q04 N s) (fun _=>True):=by
 match s,hs with
 | [a,b],_=>exact ⟨_,trivial,3,fun N hN=>by
   obtain ⟨M,rfl⟩:∃ M,N=M+3:=⟨N - 3,by omega⟩
   rfl⟩
theorem nB {x:Bool} (h:(!x)=true):x=false:=by cases x;rfl;cases h
theorem pB {x:Bool} (h:(!x)=false):x=true:=by cases x;cases h;rfl
theorem Qmm (s:List UInt8) (hs:s.length≤maxLen):TotP (fun N=>Q1c N s) (fun v=>v.2=Q9v s):=by
 show TotP (fun N=>cond (Q5 .neq (s.length:Int) 2) _ _) _;unfold Q9v;rw [X4];refine TotP.cond (fun h => .ret ?_) (fun h=>?_)
 ·have:¬ s.length=2:=fun e=>(Aa h) (by omega);rw [Ab this];rfl
 have h:s.length=2:=by have:=Ac h;omega
 rw [Ad h];refine TotP.bindE (Q75 s hs) ?_;refine TotP.cond (fun g => .ret (by simpa using g)) (fun g=>?_);exact TotP.bind (Zl9 s h) (fun _ _ => .ret (by simpa using g))
theorem Qtp (e:Qa) (ht:e.Topic.length≤maxLen) (hl:e.Hops.length≤30) (hn:∀ x∈e.Hops,x.Node.length≤300):Tot (fun N=>J5 N e) (Qhb e):=by
 refine TotP.tot ?_;unfold J5 Qhb;refine TotP.bindE (.of fun N=>Qbg N _ _ _) ?_
 have e0:(decide (0≤e.Type')&&decide (e.Type'≤2))=decide (0≤e.Type'∧e.Type'≤2):=by simp
 rw [e0];refine TotP.cond (fun g => .ret ?_) (fun g=>?_)
 ·rw [nB g];rfl
 rw [pB g];refine TotP.bind (Qmm _ ht) (fun v hv=>?_);rw [Ym,hv];refine TotP.cond (fun g2=>?_) (fun g2=>?_)
 ·rw [g2];refine TotP.cond (fun g3 => .ret ?_) (fun g3=>?_)
  ·rw [nB g3];rfl
  rw [pB g3];refine TotP.bindE (v:=⟨1048576,32⟩) (.of fun _=>rfl) ?_;refine TotP.bind (Qlw e.Hops hl hn) (fun w hw => .ret ?_);rw [Ym,hw];rfl
 rw [g2];refine TotP.bindE (v:=⟨1048576,32⟩) (.of fun _=>rfl) ?_;refine TotP.bind (Qlw e.Hops hl hn) (fun w hw => .ret ?_);rw [Ym,hw];rfl
open Classical in
noncomputable def Q2h (e:Qa):Bool:=decide (e.Packet=zPk∧e.Msg=zMk∧e.Frame=zFk)
open Classical in
theorem Qxa {e:Qa} (hpk:Qvs e.Packet) (hs:Q0.szs e.Frame.Values<700000000):Tot (fun N=>J0 N e) (Q2h e):=by
 have key:TotP (fun N=>J0 N e) (fun v=>v=true↔e.Packet=zPk∧e.Msg=zMk∧e.Frame=zFk):=by
  unfold J0;refine TotP.bind (Qjc e.Packet zPk hpk) (fun v hv=>?_);refine TotP.cond (fun g=>?_) (fun g => .ret ⟨fun h=>absurd h (by decide),fun h=>absurd (hv.2 h.1) (by rw [g];decide)⟩)
  refine TotP.cond (fun g2=>?_) (fun g2 => .ret ⟨fun h=>absurd h (by decide),fun h=>absurd ((Qny e.Msg zMk).2 h.2.1) (by
   intro h3;have:false=true:=g2.symm.trans h3;cases this)⟩)
  refine TotP.bind (V:=fun v=>v=true↔e.Frame=zFk) ⟨decide (e.Frame=zFk),decide_eq_true_iff,800000000,fun N hN=>Qrd hN _ _ hs⟩ (fun w hw => .ret ⟨fun h=>⟨hv.1 g,(Qny e.Msg zMk).1 g2,hw.1 h⟩,fun h=>hw.2 h.2.2⟩)
 obtain ⟨v,hv,ht⟩:=key
 have:v=Q2h e:=by
  unfold Q2h
  by_cases h:e.Packet=zPk∧e.Msg=zMk∧e.Frame=zFk
  ·rw [hv.2 h,Ad h]
  rw [Ab h]
  cases v with
  | false=>rfl
  | true=>exact absurd (hv.1 rfl) h
 rw [← this];exact ht
noncomputable def Q51 (e:Qa) (v:Int):Int:=
 open Classical in
 if ¬ ((e.Proto=1∨e.Proto=2∨e.Proto=3∨e.Proto=4)∧e.Kind=1) then 2 else if Q1e e.Topic=false then 10 else if ¬ PubT e (cq e) (Qhb e) (Q2h e) then 2 else if v≠0 then 9 else 0
theorem Qxy {e:Qa} {v:Int} (ht:e.Topic.length≤maxLen) (hl:e.Hops.length≤30) (hh:∀ x∈e.Hops,x.Node.length≤300) (hpk:Qvs e.Packet) (hs:Q0.szs e.Frame.Values<700000000)
  (hv:Tot (fun N=>We N 3 e.Props) v):Tot (fun N=>Ye N e) (Q51 e v):=by
 refine TotP.tot ?_;rw [show (fun N=>Ye N e)=fun N=>W7 N e (cq e) from funext fun N=>Qqt N e];unfold W7;refine TotP.bindE (.of fun N=>Qt3 N e.Proto) ?_;rw [X4]
 have bad:¬ ((e.Proto=1∨e.Proto=2∨e.Proto=3∨e.Proto=4)∧e.Kind=1)→2=Q51 e v:=fun h=>by unfold Q51;rw [Af h]
 refine TotP.cond (fun g => .ret (bad fun h=>Ac (nB g) h.1)) (fun g=>?_);have k1:=Aa (pB g);refine TotP.cond (fun g => .ret (bad fun h=>Aa g h.2)) (fun g=>?_);have k2:e.Kind=1:=Decidable.byContradiction fun x=>Ac g x;refine TotP.bindE (Q75 e.Topic ht) ?_;refine TotP.cond (fun g => .ret (by unfold Q51;rw [Ae (Ao ⟨k1,k2⟩),Af (nB g)])) (fun g=>?_)
 have kn:¬ Q1e e.Topic=false:=by rw [pB g];exact fun h=>by cases h
 have two:¬ PubT e (cq e) (Qhb e) (Q2h e)→TotP (fun _=>some (2:Int)) (· = Q51 e v):=fun h => .ret (by unfold Q51;rw [Ae (Ao ⟨k1,k2⟩),Ae kn,Af h])
 have j5:(Q2h e=true→PubT e (cq e) (Qhb e) (Q2h e))→TotP (fun N=>V5 N e) (· = Q51 e v):=fun mk=>by
  unfold V5;refine TotP.bindE (Qxa hpk hs) ?_;refine TotP.cond (fun g=>two fun h=>by have:=h.bare;rw [nB g] at this;cases this) (fun g=>?_);have hP:=mk (pB g);refine TotP.bindE hv ?_;rw [X4];refine TotP.cond (fun g => .ret ?_) (fun g => .ret ?_)
  ·unfold Q51;rw [Ae (Ao ⟨k1,k2⟩),Ae kn,Ae (Ao hP),Af (Aa g)]
  unfold Q51;rw [Ae (Ao ⟨k1,k2⟩),Ae kn,Ae (Ao hP),Ae (Ac g)]
 have j4:((0≤e.Channel∧e.Channel≤65535)→(e.Channel≠0→e.Proto=4)→Q2h e=true→PubT e (cq e) (Qhb e) (Q2h e))→TotP (fun N=>V8 N e) (· = Q51 e v):=fun mk=>by
  unfold V8;refine TotP.bindE (.of fun N=>Qbg N _ _ _) ?_;rw [X4,X4];refine TotP.cond (fun g=>two fun h=>by have:=h.ch;simp at g;omega) (fun g=>?_)
  have c1:0≤e.Channel∧e.Channel≤65535:=by simpa using g
  refine TotP.cond (fun g1=>?_) (fun g1=>j5 (mk c1 fun x=>absurd x (Ac g1)));refine TotP.cond (fun g2=>two fun h=>Aa g2 (h.ch4 (Aa g1))) (fun g2=>j5 (mk c1 fun _=>Decidable.byContradiction fun x=>Ac g2 x))
 have j3:((e.Proto=3→Qhb e=true)→(e.Proto≠3→e.Type'=0∧e.Hops.length=0)→(0≤e.Channel∧e.Channel≤65535)→(e.Channel≠0→e.Proto=4)→Q2h e=true→PubT e (cq e) (Qhb e) (Q2h e))→TotP (fun N=>V4 N e) (· = Q51 e v):=fun mk=>by
  unfold V4;rw [Ym,X4,Wx,Q6];refine TotP.cond (fun g=>?_) (fun g=>?_)
  ·have p3:=Aa g;refine TotP.bindE (Qtp e ht hl hh) ?_;exact TotP.cond (fun g=>two fun h=>by have:=h.ty p3;rw [nB g] at this;cases this) (fun g=>j4 (mk (fun _=>pB g) fun x=>absurd p3 x))
  have p3:=Ac g;refine TotP.cond (fun g=>two fun h=>Aa g (h.ty2 p3).1) (fun g1=>?_);refine TotP.cond (fun g=>two fun h=>by have:=Aa g;have:=(h.ty2 p3).2;omega) (fun g2=>j4 (mk (fun x=>absurd x p3) fun _=>⟨Decidable.byContradiction fun x=>Ac g1 x,by have:=Ac g2;omega⟩))
 have j2:((0<e.Props.length→e.Proto=2)→(e.Proto=3→Qhb e=true)→(e.Proto≠3→e.Type'=0∧e.Hops.length=0)→(0≤e.Channel∧e.Channel≤65535)→(e.Channel≠0→e.Proto=4)→Q2h e=true→PubT e (cq e) (Qhb e) (Q2h e))→TotP (fun N=>W2 N e) (· = Q51 e v):=fun mk=>by
  unfold W2;rw [Wx,X4,Q6];refine TotP.cond (fun g=>?_) (fun g=>j3 (mk fun x=>by have:=Ac g;omega));refine TotP.cond (fun g2=>two fun h=>Aa g2 (h.props (by have:=Aa g;omega))) (fun g2=>j3 (mk fun _=>Decidable.byContradiction fun x=>Ac g2 x))
 have j1:((0≤e.QoS∧e.QoS≤2)∨(e.Proto=3∧e.QoS = -1))→TotP (fun N=>V3 N e (cq e)) (· = Q51 e v):=fun hq=>by
  unfold V3;refine TotP.bindE (.of fun N=>Qbg N _ _ _) ?_;rw [X4,Ym];refine TotP.cond (fun g=>two fun h=>by have:=h.id;simp at g;omega) (fun g=>?_)
  have c1:0≤e.ID∧e.ID≤65535:=by simpa using g
  refine TotP.cond (fun g=>two fun h=>by have:=h.cid;rw [← this] at g;simp at g) (fun g=>?_)
  have c2:cq e=decide (e.ID≠0):=by simpa using g
  have mk:=fun d a b c f g h=>(⟨k1,k2,hq,c1,c2,d,a,b,c,f,g,h⟩:PubT e (cq e) (Qhb e) (Q2h e));refine TotP.cond (fun g=>?_) (fun g=>j2 (mk fun d=>by rw [d] at g;cases g));refine TotP.cond (fun g2=>?_) (fun g2=>j2 (mk fun _ => .inl (pB g2)));refine TotP.cond (fun g3=>two fun h=>?_) (fun g3=>j2 (mk fun _ => .inr (Aa (pB g3))))
  rcases h.dup g with x | x
  ·rw [nB g2] at x;cases x
  exact Ac (nB g3) x
 refine TotP.bindE (.of fun N=>Qbg N _ _ _) ?_;rw [Ym,Ym];refine TotP.cond (fun g=>?_) (fun g=>j1 (.inl (by simpa using g)))
 have nq:¬ (0≤e.QoS∧e.QoS≤2):=fun h=>by simp at g;omega
 refine TotP.cond (fun g1=>?_) (fun g1=>two fun h=>h.qos.elim nq fun x=>Ac g1 x.1);exact TotP.cond (fun g2=>two fun h=>h.qos.elim nq fun x=>Ac (nB g2) x.2) (fun g2=>j1 (.inr ⟨Aa g1,Aa (pB g2)⟩))
end
end Go.Av
namespace Go.Av
noncomputable section
section
variable {B:Nat} {c:Qg} (h:Cd B c) (hB:B≤1000) (k:c.m.Type'=12)
include h hB k
theorem Qza:TotP (fun N=>Yh N c) (fun r=>Cd (B+700000) r.2):=by
 unfold Yh;simp only [k]
 iterate 14 refine TotP.cond (fun g=>absurd g (by decide)) (fun _=>?_)
 refine TotP.cond (fun _=>?_) (fun g=>absurd g (by decide));refine TotP.bind (Qtm h (by omega)) (fun v hv=>?_);refine TotP.bind (Z15 hv (by omega)) (fun v hv=>?_);refine TotP.bind (Qyl hv (by omega)) (fun v hv=>?_);refine TotP.bind (Qwu hv (by omega)) (fun v hv=>?_);exact TotP.ret (Cd.mono hv (by omega))
end
section
variable {m:Vi} (h:OkM m) (k:m.Type'=12)
include h k
theorem Qv7:TotP (fun N=>Uy N m) (fun l=>l.length≤700000):=by
 unfold Uy;exact TotP.bind (Qza (c:=⟨1,m,[],false⟩) (cd0 h 1 (.inl rfl)) (by omega) k) (fun v hv => .ret (by have:=hv.ou;rw [Mf];omega))
theorem Qws:Any (fun N=>Q1b N m):=by
 have hm:=ml7;have hn:=h.nm
 have h1:Any (fun N=>Q17 N m.Type'):=by rw [k];exact ⟨_,trivial,.of fun N=>rfl⟩
 have h2:Tot (fun N=>Q3u N m.Type') false:=by rw [k];exact .of fun N=>rfl
 have h3:Any (fun N=>Ja N m):=by
  unfold Ja
  repeat' first
   | exact TotP.ret trivial
   | refine TotP.cond (fun _=>?_) (fun _=>?_)
 have hN:∀ s:List UInt8,s.length≤70000→Any (fun N=>Yx N s):=fun s hs=>Qk7 (Q75 _ (by omega))
 have h4:∀ i,Any (fun N=>Uz N i):=fun i=>by
  unfold Uz;refine TotP.cond (fun _ => .ret trivial) (fun _=>TotP.cond (fun _ => .ret trivial) (fun _=>?_));refine TotP.bind (Q5i _ _) (fun v hv=>?_);refine TotP.bind (hN v (by omega)) (fun _ _=>?_);exact TotP.cond (fun _ => .ret trivial) (fun _ => .ret trivial)
 have h5:Any (fun N=>Vt N m):=by
  unfold Vt
  repeat' first
   | exact TotP.ret trivial
   | refine TotP.cond (fun _=>?_) (fun _=>?_)
   | refine TotP.bind (by first | exact h4 _) (fun _ _=>?_)
 have h6:Any (fun N=>Gc N m):=by
  unfold Gc;simp only [k];exact ⟨0,trivial,.of fun N=>rfl⟩
 have h7:=(Qza (c:=⟨2,m,[],false⟩) (cd0 h 2 (.inr rfl)) (by omega) k).any;have h8:=(Qv7 h k).any;have h9:∀ a b,Any (fun N=>Wr N a b):=fun a b=>(Qj4 a b).any;have h10:=Qtr m.Type' m.Flags;unfold Q1b;refine TotP.bind h1 (fun _ _=>TotP.cond (fun _ => .ret trivial) (fun _=>?_));refine TotP.bind h10 (fun _ _=>TotP.cond (fun _ => .ret trivial) (fun _=>?_));refine TotP.bindE h2 ?_;refine TotP.cond (fun g=>absurd g (by decide)) (fun _=>?_)
 repeat' first
  | exact TotP.ret trivial
  | refine TotP.cond (fun _=>?_) (fun _=>?_)
  | refine TotP.bind (by first | exact h7 | exact h3 | exact h5 | exact h6 | exact h8 | exact h9 _ _) (fun _ _=>?_)
theorem Qkl:TotP (fun N=>Vl N m) (fun r=>r.1.length≤800000):=by
 unfold Vl;refine TotP.bind (Qws h k) (fun _ _=>TotP.cond (fun _ => .ret (by simp)) (fun _=>?_));refine TotP.bind (Qv7 h k) (fun v hv=>?_);refine TotP.bind (Qj4 _ _) (fun w hw=>TotP.cond (fun _ => .ret (by simp)) (fun _=>?_));exact TotP.chk (by rw [Lu];omega) (.ret (by simp only [Lq];omega))
end
theorem Qze {d:Qm} (h:Z02 d) (k:d.Msg.Type'=12) (l:Xd):Any (fun N=>Yg N d l):=by
 have hc:=h.hops
 have h0:Any (fun N=>Ys N d l N 0):=by
  refine Q35 (L:=fun N n i=>Ys N d l n i) d.Hops.length (fun _=>True) (fun i hi _=>?_) (fun _=>?_) trivial
  ·show Stp _ _ _ (fun N n=>cond (Q5 .lss (i:Int) ((Q8 Wz.cells d.Hops).length:Int)) _ _);refine Stp.cond (fun _=>?_) (fun _=>?_)
   ·refine Stp.idx (Qr hi) ?_;refine Stp.bind (Qr0 _) (fun _ _=>?_);refine Stp.cond (fun _=>?_) (fun _=>?_)
    ·refine Stp.cond (fun _=>Stp.ret trivial) (fun _=>?_);refine Stp.fin (TotP.bind (Qkl h.msg k) (fun v hv=>?_));exact TotP.cond (fun _ => .ret trivial) (fun _=>Qok h l v hv)
    rw [w64 _ (by omega)];exact Stp.go (L:=fun N n i=>Ys N d l n i) _ ⟨by omega,trivial⟩
   refine Stp.fin (TotP.bind (Qkl h.msg k) (fun v hv=>?_));exact TotP.cond (fun _ => .ret trivial) (fun _=>Qem h l v hv)
  show Stp _ _ _ (fun N n=>cond (Q5 .lss (d.Hops.length:Int) ((Q8 Wz.cells d.Hops).length:Int)) _ _);rw [Q6,Ql,Ab (by omega)];refine Stp.fin (TotP.bind (Qkl h.msg k) (fun v hv=>?_));exact TotP.cond (fun _ => .ret trivial) (fun _=>Qem h l v hv)
 have h1:Any (fun N=>Gv N l):=by
  unfold Gv
  repeat' first
   | exact TotP.ret trivial
   | refine TotP.cond (fun _=>?_) (fun _=>?_)
 unfold Yg Gw;refine TotP.bind (V:=fun _=>True) ?_ (fun _ _ => .ret trivial);refine TotP.bind h1 (fun _ _=>?_);exact TotP.cond (fun _ => .ret trivial) (fun _=>TotP.cond (fun _ => .ret trivial) (fun _=>h0))
end
end Go.Av
namespace Go.Av
noncomputable section
section
variable {T:Type}
end
structure Z20 (p:Qp):Prop where
 codes:p.Codes.length≤100000
 filters:p.Filters.length≤100000
 props:p.Props.length≤100000
 wprops:p.Will.Props.length≤100000
theorem Qi0 (e:Qa) (hp:e.Props.length≤100000) (hh:e.Hops.length≤100000) (hk:Qpk e.Packet) (hv:e.Frame.Values = []):Tot (fun N=>Wu N e) e:=by
 refine ⟨1,fun N hN=>?_⟩;obtain ⟨M,rfl⟩:∃ M,N=M+1:=⟨N - 1,by omega⟩;show Wu (M+1) e=_;unfold Wu;rw [Q6l _ _ hp,Qjz _ _ hh,Ql6 _ _ hk];simp only [Lh];obtain ⟨a0,a1,a2,a3,a4,a5,a6,a7,a8,a9,a10,a11,a12,a13,⟨b0,b1,b2,b3⟩⟩:=e
 simp only at hv
 subst hv;rfl
end
end Go.Av
namespace Go.Av
noncomputable section
theorem Q1z {T:Type} (c:T→List PV) (l:List T):(Q8 c l).length=l.length:=by simp [Q8]
def few (m:Nat) (o:Q2):Prop:=o.L.length≤m∧∀ e∈o.L,e.l.length≤m
theorem Qes {m:Nat} (hm:m≤1000) {o:Q2} (ho:few m o) (c:List UInt8):TotP (fun N=>Zw N o c) (fun r=>r.1.length≤m∧r.2=o):=by
 unfold Zw;refine Q35 (L:=fun N n s=>Z6 N o c n s) o.L.length (fun _=>True) (fun i hi _=>?_) (fun _=>?_) trivial
 ·have hy:o.L[i].l.length≤m:=ho.2 _ (Mi hi);have:=ho.1;show Stp _ _ _ (fun N n=>cond (Q5 .lss (i:Int) ((Q8 Q1.cells o.L).length:Int)) _ _);rw [Q1z,Ql];refine Stp.cond (fun _=>?_) (fun h=>absurd (Ac h) (by omega));refine Stp.idx (Qr hi) ?_;refine Stp.cond (fun _=>?_) (fun _=>?_)
  ·refine Stp.idx (Qr hi) ?_;refine Stp.cond (fun _=>Stp.ret ⟨Mj _,rfl⟩) (fun _=>?_);refine Stp.chk (by rw [Q1z,Lu];omega) ?_;exact Stp.ret ⟨by simpa using hy,rfl⟩
  rw [w64 _ (by omega)];exact Stp.go (L:=fun N n s=>Z6 N o c n s) _ ⟨by omega,trivial⟩
 show Stp _ _ _ (fun N n=>cond (Q5 .lss ((o.L.length:Nat):Int) ((Q8 Q1.cells o.L).length:Int)) _ _);rw [Q1z,Ql];refine Stp.cond (fun h=>absurd (Aa h) (by omega)) (fun _=>Stp.ret ⟨Mj _,rfl⟩)
theorem Qi2 {m:Nat} (hm:m≤1000) {l:List Zf} (hl:l.length≤m) (t:Zf):TotP (fun N=>Wp N l t) (fun r=>r.length≤m+1):=by
 unfold Wp;refine Q60 (S:=Bool×Int×List Zf) (L:=fun N n s=>Ze N l t n s.1 s.2.1 s.2.2) (fun s=>∃ i:Nat,s.2.1=(i:Int)∧i≤l.length∧s.2.2.length≤i+(if s.1=true then 1 else 0)) (fun s=>l.length - s.2.1.toNat) ?_ (false,0,[]) ⟨0,rfl,Mj _,by simp⟩
 rintro ⟨b,j,out⟩ ⟨i,hj,hi,ho⟩
 simp only at hj hi ho
 subst hj;show Stp _ _ _ (fun N n=>cond (Q5 .lss (i:Int) ((Q8 Zf.cells l).length:Int)) _ _);rw [Q1z,Ql];dsimp only
 have hob:out.length≤i+1:=by revert ho;split<;>omega
 refine Stp.cond (fun h=>?_) (fun _=>?_)
 ·have hlt:i<l.length:=by have:=Aa h;omega
  have ew:wrap .i64 ((i:Int)+1)=((i+1:Nat):Int):=by rw [w64 _ (by omega)];omega
  rw [ew];refine Stp.cond (fun hb=>?_) (fun hb=>?_)
  ·have hb:b=false:=by simpa using hb
   subst hb
   have ho:out.length≤i:=by simpa using ho
   refine Stp.idx (Qr hlt) ?_;refine Stp.cond (fun _=>?_) (fun _=>?_)
   ·refine Stp.chk (by rw [Lu];omega) ?_;refine Stp.idx (Qr hlt) ?_;refine Stp.chk (by rw [Lu];omega) ?_;exact Stp.go (L:=fun N n s=>Ze N l t n s.1 s.2.1 s.2.2) (true,((i+1:Nat):Int),(out ++ [t]) ++ [l[i]]) ⟨⟨i+1,rfl,hlt,by simp;omega⟩,by simp only [Lx];omega⟩
   refine Stp.idx (Qr hlt) ?_;refine Stp.chk (by rw [Lu];omega) ?_;exact Stp.go (L:=fun N n s=>Ze N l t n s.1 s.2.1 s.2.2) (false,((i+1:Nat):Int),out ++ [l[i]]) ⟨⟨i+1,rfl,hlt,by simp;omega⟩,by simp only [Lx];omega⟩
  refine Stp.idx (Qr hlt) ?_;refine Stp.chk (by rw [Lu];omega) ?_;exact Stp.go (L:=fun N n s=>Ze N l t n s.1 s.2.1 s.2.2) (b,((i+1:Nat):Int),out ++ [l[i]]) ⟨⟨i+1,rfl,hlt,by simp only [Lq,Ni];omega⟩,by simp only [Lx];omega⟩
 refine Stp.cond (fun hb=>?_) (fun _=>Stp.ret (by omega))
 have hb:b=false:=by simpa using hb
 subst hb
 have ho:out.length≤i:=by simpa using ho
 refine Stp.chk (by rw [Lu];omega) ?_;exact Stp.ret (by simp;omega)
theorem Qhh {m:Nat} (hm:m≤1000) {o:Q2} (ho:few m o) (c:List UInt8) {l:List Zf} (hl:l.length≤m+1):TotP (fun N=>Ya N o c l) (fun r=>few (m+1) r.2):=by
 unfold Ya;refine Q60 (S:=Bool×Int×List Q1) (L:=fun N n s=>Q7 N o c l n s.1 s.2.1 s.2.2)
  (fun s=>∃ i:Nat,s.2.1=(i:Int)∧i≤o.L.length∧s.2.2.length≤i+(if s.1=true then 1 else 0)∧∀ e∈s.2.2,e.l.length≤m+1) (fun s=>o.L.length - s.2.1.toNat) ?_ (_,0,[]) ⟨0,rfl,Mj _,by simp,fun e h=>by cases h⟩
 rintro ⟨b,j,out⟩ ⟨i,hj,hi,hq,hx⟩
 simp only at hj hi hq hx
 subst hj;have h1:=ho.1;show Stp _ _ _ (fun N n=>cond (Q5 .lss (i:Int) ((Q8 Q1.cells o.L).length:Int)) _ _);rw [Q1z,Ql];dsimp only
 have hob:out.length≤i+1:=by revert hq;split<;>omega
 have addx:∀ (l1:List Q1) (e:Q1),(∀ e∈l1,e.l.length≤m+1)→e.l.length≤m+1→∀ x∈l1 ++ [e],x.l.length≤m+1:=fun l1 e h1 h2 x hx=>by
  rcases Me.1 hx with h | h
  ·exact h1 x h
  simp at h;subst h;exact h2
 refine Stp.cond (fun h=>?_) (fun _=>?_)
 ·have hlt:i<o.L.length:=by have:=Aa h;omega
  have hy:o.L[i].l.length≤m+1:=Nb (ho.2 _ (Mi hlt))
  have ew:wrap .i64 ((i:Int)+1)=((i+1:Nat):Int):=by rw [w64 _ (by omega)];omega
  rw [ew];refine Stp.idx (Qr hlt) ?_
  have go:∀ (b':Bool) (out':List Q1),out'.length≤i+1+(if b'=true then 1 else 0)→(∀ e∈out',e.l.length≤m+1)→Stp (fun N n (s:Bool×Int×List Q1)=>Q7 N o c l n s.1 s.2.1 s.2.2)
    (fun s'=>(∃ i:Nat,s'.2.1=(i:Int)∧i≤o.L.length∧s'.2.2.length≤i+(if s'.1=true then 1 else 0)∧∀ e∈s'.2.2,e.l.length≤m+1)∧o.L.length - s'.2.1.toNat<o.L.length - (i:Int).toNat) (fun r=>few (m+1) r.2)
    (fun N n=>Q7 N o c l n b' ((i+1:Nat):Int) out'):=fun b' out' h2 h3=>
   Stp.go (L:=fun N n (s:Bool×Int×List Q1)=>Q7 N o c l n s.1 s.2.1 s.2.2) (b',((i+1:Nat):Int),out') ⟨⟨i+1,rfl,hlt,h2,h3⟩,by simp only [Lx];omega⟩
  have keep:∀ b',b'=b→Stp (fun N n (s:Bool×Int×List Q1)=>Q7 N o c l n s.1 s.2.1 s.2.2)
    (fun s'=>(∃ i:Nat,s'.2.1=(i:Int)∧i≤o.L.length∧s'.2.2.length≤i+(if s'.1=true then 1 else 0)∧∀ e∈s'.2.2,e.l.length≤m+1)∧o.L.length - s'.2.1.toNat<o.L.length - (i:Int).toNat) (fun r=>few (m+1) r.2)
    (fun N n=>cond (Q0k .neq o.L[i].client c) (cond (Nat.ble ((out.length+1+4096) * 40) 17592186044416) (Q7 N o c l n b' ((i+1:Nat):Int) (out ++ [o.L[i]])) none) (Q7 N o c l n b' ((i+1:Nat):Int) out)):=fun b' hb'=>by
   subst hb';refine Stp.cond (fun _=>?_) (fun _=>go _ _ (by omega) hx);refine Stp.chk (by rw [Lu];omega) ?_;exact go _ _ (by simp only [Lq,Ni];omega) (addx _ _ hx hy)
  refine Stp.cond (fun hb=>?_) (fun _=>keep b rfl);refine Stp.cond (fun _=>?_) (fun _=>keep b rfl)
  have hb:b=false:=by simpa using hb
  subst hb
  have hq:out.length≤i:=by simpa using hq
  refine Stp.chk (by rw [Lu];omega) ?_;refine Stp.cond (fun _=>?_) (fun _=>?_)
  ·refine Stp.chk (by rw [Lu];omega) ?_;exact go _ _ (by simp;omega) (addx _ _ (addx _ _ hx hl) hy)
  exact go _ _ (by simp;omega) (addx _ _ hx hl)
 refine Stp.cond (fun hb=>?_) (fun _=>Stp.ret ⟨by show out.length≤_;omega,hx⟩)
 have hb:b=false:=by simpa using hb
 subst hb
 have hq:out.length≤i:=by simpa using hq
 refine Stp.chk (by rw [Lu];omega) ?_;exact Stp.ret ⟨by show (out ++ [_]).length≤_;simp;omega,addx _ _ hx hl⟩
theorem Qse {m:Nat} (hm:m≤1000) (c n:List UInt8) {v:List Zf×Q2} (hv:v.1.length≤m) (ho:few m v.2) :
  TotP (fun N=>Qh N c n v N 1 0) (fun r=>few (m+1) r.2):=by
 refine Q60 (S:=Int×Int) (L:=fun N k s=>Qh N c n v k s.1 s.2) (fun s=>∃ i j:Nat,s.2=(i:Int)∧i≤v.1.length∧s.1=(j:Int)∧j≤i+1) (fun s=>v.1.length - s.2.toNat) ?_ (1,0) ⟨0,1,rfl,Mj _,rfl,Lj _⟩
 rintro ⟨f,k⟩ ⟨i,j,hk,hi,hf,hj⟩
 simp only at hk hf
 subst hk hf;have weak:few (m+1) v.2:=⟨Nb ho.1,fun e he=>Nb (ho.2 e he)⟩;show Stp _ _ _ (fun N n'=>cond (Q5 .lss (i:Int) ((Q8 Zf.cells v.1).length:Int)) _ _);rw [Q1z,Ql];dsimp only;refine Stp.cond (fun h=>?_) (fun _=>?_)
 ·have hlt:i<v.1.length:=by have:=Aa h;omega
  have ew:wrap .i64 ((i:Int)+1)=((i+1:Nat):Int):=by rw [w64 _ (by omega)];omega
  have ej:wrap .i64 ((j:Int)+1)=((j+1:Nat):Int):=by rw [w64 _ (by omega)];omega
  rw [ew,ej];refine Stp.idx (Qr hlt) ?_;refine Stp.cond (fun _=>?_) (fun _=>?_)
  ·refine Stp.idx (Qr hlt) ?_;exact Stp.ret weak
  refine Stp.idx (Qr hlt) ?_;refine Stp.cond (fun _=>?_) (fun _=>?_)
  ·exact Stp.go (L:=fun N k (s:Int×Int)=>Qh N c n v k s.1 s.2) (((j+1:Nat):Int),((i+1:Nat):Int)) ⟨⟨i+1,j+1,rfl,hlt,rfl,by omega⟩,by simp only [Lx];omega⟩
  exact Stp.go (L:=fun N k (s:Int×Int)=>Qh N c n v k s.1 s.2) ((j:Int),((i+1:Nat):Int)) ⟨⟨i+1,j,rfl,hlt,rfl,by omega⟩,by simp only [Lx];omega⟩
 refine Stp.cond (fun _=>Stp.ret weak) (fun _=>?_);refine Stp.bind (Qi2 hm hv _) (fun w hw=>?_);refine Stp.bind (Qhh hm ho c hw) (fun u hu=>?_);exact Stp.ret hu
end
end Go.Av
namespace Go.Av
noncomputable section
open Go.Proofs
theorem Zls (x:Nat) (h:x≤9223372036854775807):wrap .i64 (x:Int)=x:=w64 _ (by omega)
theorem Ql7 (N:Nat) (s:List UInt8) (j:Nat):Zs N s (j:Int)=some (if goes s j then (((at8 s j - 128:Nat):Int),true) else (0,false)):=by
 unfold Zs;rw [Us]
 by_cases hj:j<s.length
 ·have hb:=Dh s[j];rw [Ab (show ¬ ((j:Int)≥(s.length:Int)) by omega),Ah,Qr hj,Lh,Ql,Lh,Wx,Lh];have e:=Q7w hj
  by_cases h1:at8 s j<128
  ·rw [Ad (by omega),Ai,Ae (fun h=>by have:=h.2.1;omega)]
  rw [Ab (by omega),Ah]
  by_cases h2:at8 s j<192
  ·rw [Ab (by omega),Ah,Af ⟨hj,by omega,h2⟩,w64 ((s[j]).toNat:Int) (by omega),w64 _ (by omega)]
   congr 2;omega
  rw [Ad (by omega),Ai,Ae (fun h=>h2 h.2.2)]
 rw [Ad (show ((j:Int)≥(s.length:Int)) by omega),Ai,Ae (fun h=>hj h.1)]
theorem Z0f (N:Nat) (s:List UInt8) (i n x k:Nat) (hk:k<2) (hx:x<1099511627776) (hi:i≤4611686018427387904):Z1 N s (i:Int) (n+1) (x:Int) (k:Int) =
  if goes s (i+k) then Z1 N s (i:Int) n ((64 * x+(at8 s (i+k) - 128):Nat):Int) ((k+1:Nat):Int) else some (0,0):=by
 have hb:=Q7u s (i+k);rw [Z1,Ql,Ad (by omega),Ai,show wrap .i64 ((i:Int)+(k:Int))=((i+k:Nat):Int) by rw [w64 _ (by omega)];omega,Ql7,Lh]
 by_cases g:goes s (i+k)
 ·rw [Af g,Af g];show Z1 N s (i:Int) n (wrap .i64 (wrap .i64 (64 * (x:Int))+((at8 s (i+k) - 128:Nat):Int))) (wrap .i64 ((k:Int)+1))=_;rw [w64 (64 * (x:Int)) (by omega),w64 _ (by omega),w64 _ (by omega)]
  congr 1
 rw [Ae g,Ae g];rfl
theorem Qyx (N:Nat) (s:List UInt8) (i n x:Nat):Z1 N s (i:Int) (n+1) (x:Int) ((2:Nat):Int)=if 128≤x∧Q9s x then some ((x:Int),2) else some (0,0):=by
 rw [Z1,Ql,Ab (by omega),Ah,Ql,Wx,Us,Vd];unfold Q9s
 by_cases h1:x<128
 ·rw [Ad (by omega),Ai,Ae (by omega)]
 rw [Ab (show ¬ ((x:Int)<128) by omega),Ah]
 by_cases h2:x≤1114111
 ·rw [Ab (show ¬ ((x:Int)>1114111) by omega),Ah]
  by_cases h3:55296≤x
  ·rw [Ad (show ((x:Int)≥55296) by omega),Ai]
   by_cases h4:x≤57343
   ·rw [Ad (show ((x:Int)≤57343) by omega),Ai,Ae (by omega)]
   rw [Ab (show ¬ ((x:Int)≤57343) by omega),Ah,Af (by omega)]
  rw [Ab (show ¬ ((x:Int)≥55296) by omega),Ah,Af (by omega)]
 rw [Ad (show ((x:Int)>1114111) by omega),Ai,Ae (by omega)]
theorem Qy9 (N:Nat) (s:List UInt8) (i n x k:Nat) (hk:k<3) (hx:x<1099511627776) (hi:i≤4611686018427387904):Z2 N s (i:Int) (n+1) (x:Int) (k:Int) =
  if goes s (i+k) then Z2 N s (i:Int) n ((64 * x+(at8 s (i+k) - 128):Nat):Int) ((k+1:Nat):Int) else some (0,0):=by
 have hb:=Q7u s (i+k);rw [Z2,Ql,Ad (by omega),Ai,show wrap .i64 ((i:Int)+(k:Int))=((i+k:Nat):Int) by rw [w64 _ (by omega)];omega,Ql7,Lh]
 by_cases g:goes s (i+k)
 ·rw [Af g,Af g];show Z2 N s (i:Int) n (wrap .i64 (wrap .i64 (64 * (x:Int))+((at8 s (i+k) - 128:Nat):Int))) (wrap .i64 ((k:Int)+1))=_;rw [w64 (64 * (x:Int)) (by omega),w64 _ (by omega),w64 _ (by omega)]
  congr 1
 rw [Ae g,Ae g];rfl
theorem Qzq (N:Nat) (s:List UInt8) (i n x:Nat):Z2 N s (i:Int) (n+1) (x:Int) ((3:Nat):Int)=if 2048≤x∧Q9s x then some ((x:Int),3) else some (0,0):=by
 rw [Z2,Ql,Ab (by omega),Ah,Ql,Wx,Us,Vd];unfold Q9s
 by_cases h1:x<2048
 ·rw [Ad (by omega),Ai,Ae (by omega)]
 rw [Ab (show ¬ ((x:Int)<2048) by omega),Ah]
 by_cases h2:x≤1114111
 ·rw [Ab (show ¬ ((x:Int)>1114111) by omega),Ah]
  by_cases h3:55296≤x
  ·rw [Ad (show ((x:Int)≥55296) by omega),Ai]
   by_cases h4:x≤57343
   ·rw [Ad (show ((x:Int)≤57343) by omega),Ai,Ae (by omega)]
   rw [Ab (show ¬ ((x:Int)≤57343) by omega),Ah,Af (by omega)]
  rw [Ab (show ¬ ((x:Int)≥55296) by omega),Ah,Af (by omega)]
 rw [Ad (show ((x:Int)>1114111) by omega),Ai,Ae (by omega)]
theorem Qwb (N:Nat) (s:List UInt8) (i n x k:Nat) (hk:k<4) (hx:x<1099511627776) (hi:i≤4611686018427387904):Z3 N s (i:Int) (n+1) (x:Int) (k:Int) =
  if goes s (i+k) then Z3 N s (i:Int) n ((64 * x+(at8 s (i+k) - 128):Nat):Int) ((k+1:Nat):Int) else some (0,0):=by
 have hb:=Q7u s (i+k);rw [Z3,Ql,Ad (by omega),Ai,show wrap .i64 ((i:Int)+(k:Int))=((i+k:Nat):Int) by rw [w64 _ (by omega)];omega,Ql7,Lh]
 by_cases g:goes s (i+k)
 ·rw [Af g,Af g];show Z3 N s (i:Int) n (wrap .i64 (wrap .i64 (64 * (x:Int))+((at8 s (i+k) - 128:Nat):Int))) (wrap .i64 ((k:Int)+1))=_;rw [w64 (64 * (x:Int)) (by omega),w64 _ (by omega),w64 _ (by omega)]
  congr 1
 rw [Ae g,Ae g];rfl
theorem Qzp (N:Nat) (s:List UInt8) (i n x:Nat):Z3 N s (i:Int) (n+1) (x:Int) ((4:Nat):Int)=if 65536≤x∧Q9s x then some ((x:Int),4) else some (0,0):=by
 rw [Z3,Ql,Ab (by omega),Ah,Ql,Wx,Us,Vd];unfold Q9s
 by_cases h1:x<65536
 ·rw [Ad (by omega),Ai,Ae (by omega)]
 rw [Ab (show ¬ ((x:Int)<65536) by omega),Ah]
 by_cases h2:x≤1114111
 ·rw [Ab (show ¬ ((x:Int)>1114111) by omega),Ah]
  by_cases h3:55296≤x
  ·rw [Ad (show ((x:Int)≥55296) by omega),Ai]
   by_cases h4:x≤57343
   ·rw [Ad (show ((x:Int)≤57343) by omega),Ai,Ae (by omega)]
   rw [Ab (show ¬ ((x:Int)≤57343) by omega),Ah,Af (by omega)]
  rw [Ab (show ¬ ((x:Int)≥55296) by omega),Ah,Af (by omega)]
 rw [Ad (show ((x:Int)>1114111) by omega),Ai,Ae (by omega)]
def ptF (q:Nat×Nat):Int×Int:=if q.1=65533∧q.2=1 then (0,0) else ((q.1:Int),(q.2:Int))
theorem Qiw {c w:Nat} (h:¬ (c=65533∧w=1)):ptF (c,w)=((c:Int),(w:Int)):=Ae h
theorem Q5y:ptF (65533,1)=(0,0):=Af ⟨rfl,rfl⟩
def ptR (s:List UInt8) (i:Nat):Int×Int:=ptF (Q5v s i)
theorem Qsh (s:List UInt8) (i:Nat) (hi:i<s.length) (hs:s.length≤4611686018427387904) (M:Nat):Xt (M+5) s (i:Int)=some (ptR s i):=by
 have hb:=Q7u s i;have hb1:=Q7u s (i+1);have hb2:=Q7u s (i+(1+1));have e:=Q7w hi
 have hw:wrap .i64 ((s[i]).toNat:Int)=(at8 s i:Int):=by rw [← e];exact Zls _ (by omega)
 unfold Xt;rw [Qr hi,Lh,hw];simp only [Ql,Us];unfold ptR Q5v
 by_cases c1:at8 s i<128
 ·rw [Ad (by omega),Ai,Af c1,Qiw (by omega)];rfl
 rw [Ab (show ¬ ((at8 s i:Int)<128) by omega),Ah,Ae c1]
 by_cases c2:at8 s i<192
 ·rw [Ab (show ¬ ((at8 s i:Int)≥192) by omega),Ah,Ab (show ¬ ((at8 s i:Int)≥224) by omega),Ah,Ab (show ¬ ((at8 s i:Int)≥240) by omega),Ah,
   Ae (by omega),Ae (by omega),Ae (by omega),Q5y]
 rw [Ad (show ((at8 s i:Int)≥192) by omega),Ai]
 by_cases c3:at8 s i<224
 ·rw [Ad (show ((at8 s i:Int)<224) by omega),Ai,Ae (c:=224≤at8 s i∧_) (by omega),Ae (c:=240≤at8 s i∧_) (by omega)]
  have h0:wrap .i64 ((at8 s i:Int) - 192)=((at8 s i - 192:Nat):Int):=by rw [w64 _ (by omega)];omega
  rw [h0,show (1:Int)=((1:Nat):Int) from rfl,Z0f _ _ _ _ _ _ (by omega) (by omega) (by omega)]
  by_cases g1:goes s (i+1)
  ·rw [Af g1,show 1+1=2 from rfl,Qyx];have hg:=g1.2
   by_cases c4:128≤64 * (at8 s i - 192)+(at8 s (i+1) - 128)
   ·rw [Af ⟨c4,by unfold Q9s;omega⟩,Af ⟨by omega,c3,g1,c4⟩,Qiw (by omega)];rfl
   rw [Ae (fun h=>c4 h.1),Ae (fun h=>c4 h.2.2.2),Q5y]
  rw [Ae g1,Ae (fun h=>g1 h.2.2.1),Q5y]
 rw [Ab (show ¬ ((at8 s i:Int)<224) by omega),Ah,Ad (show ((at8 s i:Int)≥224) by omega),Ai,Ae (c:=192≤at8 s i∧_) (by omega)]
 by_cases c5:at8 s i<240
 ·rw [Ad (show ((at8 s i:Int)<240) by omega),Ai,Ae (c:=240≤at8 s i∧_) (by omega)]
  have h0:wrap .i64 ((at8 s i:Int) - 224)=((at8 s i - 224:Nat):Int):=by rw [w64 _ (by omega)];omega
  rw [h0,show (1:Int)=((1:Nat):Int) from rfl,Qy9 _ _ _ _ _ _ (by omega) (by omega) (by omega)]
  by_cases g1:goes s (i+1)
  ·have hg1:=g1.2;rw [Af g1,Qy9 _ _ _ _ _ _ (by omega) (by omega) (by omega)]
   by_cases g2:goes s (i+2)
   ·have hg2:=g2.2;rw [Af g2,show 1+1+1=3 from rfl,Qzq]
    by_cases c4:2048≤64 * (64 * (at8 s i - 224)+(at8 s (i+1) - 128))+(at8 s (i+2) - 128)∧Q9s (64 * (64 * (at8 s i - 224)+(at8 s (i+1) - 128))+(at8 s (i+2) - 128))
    ·rw [Af c4,Af ⟨by omega,c5,g1,g2,c4⟩,Qiw (by omega)];rfl
    rw [Ae c4,Ae (fun h=>c4 h.2.2.2.2),Q5y]
   rw [Ae g2,Ae (fun h=>g2 h.2.2.2.1),Q5y]
  rw [Ae g1,Ae (fun h=>g1 h.2.2.1),Q5y]
 rw [Ab (show ¬ ((at8 s i:Int)<240) by omega),Ah,Ad (show ((at8 s i:Int)≥240) by omega),Ai,Ae (c:=224≤at8 s i∧_) (by omega)]
 by_cases c6:at8 s i<248
 ·rw [Ad (show ((at8 s i:Int)<248) by omega),Ai]
  have h0:wrap .i64 ((at8 s i:Int) - 240)=((at8 s i - 240:Nat):Int):=by rw [w64 _ (by omega)];omega
  rw [h0,show (1:Int)=((1:Nat):Int) from rfl,Qwb _ _ _ _ _ _ (by omega) (by omega) (by omega)]
  by_cases g1:goes s (i+1)
  ·have hg1:=g1.2;rw [Af g1,Qwb _ _ _ _ _ _ (by omega) (by omega) (by omega)]
   by_cases g2:goes s (i+2)
   ·have hg2:=g2.2;rw [Af g2,Qwb _ _ _ _ _ _ (by omega) (by omega) (by omega)]
    by_cases g3:goes s (i+3)
    ·have hg3:=g3.2;rw [Af g3,show 1+1+1+1=4 from rfl,Qzp]
     by_cases c4:65536≤64 * (64 * (64 * (at8 s i - 240)+(at8 s (i+1) - 128))+(at8 s (i+2) - 128))+(at8 s (i+3) - 128)∧Q9s (64 * (64 * (64 * (at8 s i - 240)+(at8 s (i+1) - 128))+(at8 s (i+2) - 128))+(at8 s (i+3) - 128))
     ·rw [Af c4,Af ⟨by omega,c6,g1,g2,g3,c4⟩,Qiw (by omega)];rfl
     rw [Ae c4,Ae (fun h=>c4 h.2.2.2.2.2),Q5y]
    rw [Ae g3,Ae (fun h=>g3 h.2.2.2.2.1),Q5y]
   rw [Ae g2,Ae (fun h=>g2 h.2.2.2.1),Q5y]
  rw [Ae g1,Ae (fun h=>g1 h.2.2.1),Q5y]
 rw [Ab (show ¬ ((at8 s i:Int)<248) by omega),Ah,Ae (fun h=>c6 h.2.1),Q5y]
theorem Qrr (s:List UInt8) (i:Nat) (hi:i<s.length) (hs:s.length≤4611686018427387904):Tot (fun N=>Xt N s (i:Int)) (ptR s i):=
 ⟨5,fun N hN=>by obtain ⟨M,rfl⟩:∃ M,N=M+5:=⟨N - 5,by omega⟩;exact Qsh s i hi hs M⟩
theorem Qsc (s:List UInt8) (hs:s.length≤4611686018427387904):Tot (fun N=>J3 N s) (Qxi (Qjp s 0)):=by
 refine TotP.tot ?_;refine Q60 (L:=fun N n (p:Int)=>X0 N s n p) (fun p=>∃ i:Nat,p=(i:Int)∧i≤s.length∧Qjp s i=Qjp s 0) (fun p=>s.length - p.toNat) ?_ 0 ⟨0,rfl,Mj _,rfl⟩
 rintro p ⟨i,rfl,hi,hb0⟩
 show Stp _ _ _ (fun N n=>cond (Q5 .lss (i:Int) (s.length:Int)) _ _);rw [Ql];refine Stp.cond (fun h=>?_) (fun h=>?_)
 ·have hl:i<s.length:=by have:=Aa h;omega
  have hw:=Qm2 s i hl
  have hb:Qjp s i=(if (Q5v s i).1=0∨Qox s i then some i else Qjp s (i+(Q5v s i).2)):=by rw [Qjp,dif_pos hl]
  refine Stp.bind (V:=(· = ptR s i)) ⟨_,rfl,Qrr s i hl hs⟩ ?_
  rintro v rfl
  unfold ptR
  by_cases hn:Qox s i
  ·rw [Af (.inr hn)] at hb;unfold Qox at hn;rw [hn,Q5y];refine Stp.ret ?_;rw [← hb0,hb];rfl
  have hp:ptF (Q5v s i)=(((Q5v s i).1:Int),((Q5v s i).2:Int)):=Qiw (c:=(Q5v s i).1) (w:=(Q5v s i).2) (fun h=>hn (by unfold Qox;rw [← h.1,← h.2]));rw [hp,Ym,Ym];refine Stp.cond (fun h2=>by have:=Aa h2;have:=hw.1;omega) (fun _=>?_);refine Stp.cond (fun h0=>?_) (fun h0=>?_)
  ·have h0:(Q5v s i).1=0:=by have:=Aa h0;omega
   refine Stp.ret ?_;rw [← hb0,hb,Af (.inl h0)];rfl
  have h0:(Q5v s i).1≠0:=by have:=Ac h0;omega
  have e:wrap .i64 ((i:Int)+((Q5v s i).2:Int))=((i+(Q5v s i).2:Nat):Int):=by rw [w64 _ (by have:=hw.2.1;omega)];omega
  show Stp _ _ _ (fun N n=>X0 N s n (wrap .i64 ((i:Int)+((Q5v s i).2:Int))));rw [e];refine Stp.go _ ⟨⟨_,rfl,hw.2.1,?_⟩,by have:=hw.1;have:=hw.2.1;simp only [Lx];omega⟩;rw [← hb0,hb,Ae]
  rintro (h | h)
  ·exact h0 h
  exact hn h
 have hl:¬ i<s.length:=by have:=Ac h;omega
 refine Stp.ret ?_;rw [← hb0,Qjp,dif_neg hl];rfl
theorem Qw9 (o:Option Nat):decide (Qxi o<0)=o.isNone:=by
 cases o with
 | none=>rfl
 | some p=>exact Ab (by simp only [Qxi];omega)
theorem Qo4 (s:List UInt8):Tot (fun N=>U8 N s) (Qax s):=by
 refine TotP.tot ?_;show TotP (fun N=>cond (Q5 .leq (s.length:Int) 65535) _ _) _;rw [Vd];refine TotP.cond (fun h=>?_) (fun h=>?_)
 ·have h:s.length≤65535:=by have:=Aa h;omega
  refine TotP.bindE (Qsc s (by omega)) (.ret ?_);rw [Ql,Qw9];simp [Qax,h]
 have h:¬ s.length≤65535:=by have:=Ac h;omega
 exact .ret (by simp [Qax,h])
theorem Qp7 (s:List UInt8) (hs:s.length≤maxLen) (c:Nat):Tot (fun N=>Vw N s (c:Int)) (s.any fun b=>b.toNat == c):=by
 have hm:=Q3n;refine TotP.tot ?_;refine Q35 (L:=fun N n i=>Xl N s (c:Int) n i) s.length (fun i=>∀ j (h:j<s.length),j<i→(s[j]).toNat≠c) (fun i hi hj=>?_) (fun hj=>?_) (fun j _ hj=>by omega)
 ·show Stp _ _ _ (fun N n=>cond (Q5 .lss (i:Int) (s.length:Int)) _ _);refine Stp.cond (fun _=>?_) (fun h=>by rw [Ql] at h;have:=Ac h;omega);refine Stp.idx (Qr hi) ?_;rw [Ym];refine Stp.cond (fun h=>?_) (fun h=>?_)
  ·refine Stp.ret (Eq.symm ?_);rw [Bz];exact ⟨s[i],Mi _,by have:=Aa h;simp;omega⟩
  rw [w64 _ (by omega)];refine Stp.go _ ⟨by omega,fun j hj2 hji=>?_⟩
  by_cases e:j=i
  ·subst e;have:=Ac h;omega
  exact hj j hj2 (by omega)
 show Stp _ _ _ (fun N n=>cond (Q5 .lss (s.length:Int) (s.length:Int)) _ _);refine Stp.cond (fun h=>by rw [Ql] at h;have:=Aa h;omega) (fun _=>?_);refine Stp.ret (Eq.symm ?_);rw [Cv];intro b hb;obtain ⟨j,hj2,rfl⟩:=Nh hb;have:=hj j hj2 hj2;simpa using this
theorem Qw8 (s:List UInt8):Qsi s=((s.any fun b=>b.toNat == 43)||(s.any fun b=>b.toNat == 35)):=by
 unfold Qsi
 induction s with
 | nil=>rfl
 | cons b s ih=>simp only [List.any_cons,ih];cases b.toNat == 43<;>cases b.toNat == 35<;>cases (s.any fun b=>b.toNat == 43)<;>cases (s.any fun b=>b.toNat == 35)<;>rfl
theorem Q8s (s:List UInt8) (hs:s.length≤maxLen):Tot (fun N=>Yy N s) (Q1e s):=by
 refine TotP.tot ?_;show TotP (fun N=>cond (Q0k .neq s []) _ _) _
 have e:Q0k .neq s []=decide (s ≠ []):=by cases s<;>rfl
 rw [e];unfold Q1e;rw [Qw8];refine TotP.cond (fun h=>?_) (fun h => .ret (by rw [h];rfl));rw [h];refine TotP.bindE (Qo4 s) ?_;refine TotP.cond (fun h=>?_) (fun h => .ret (by rw [h];rfl));rw [h];refine TotP.bindE (Qp7 s hs 43) ?_;refine TotP.cond (fun h=>?_) (fun h => .ret ?_)
 ·refine TotP.bindE (Qp7 s hs 35) (.ret ?_)
  have h:(s.any fun b=>b.toNat == 43)=false:=by simpa using h
  rw [h];rfl
 have h:(s.any fun b=>b.toNat == 43)=true:=by simpa using h
 rw [h];rfl
end
end Go.Av
namespace Go.Av
noncomputable section
theorem Qft {m:Nat} (hm:m≤900) {o:Q2} (ho:few m o) (c n:List UInt8) (hn:n.length≤maxLen):TotP (fun N=>Zk N o c n) (fun r=>few (m+1) r.2):=by
 have weak:few (m+1) o:=⟨Nb ho.1,fun e he=>Nb (ho.2 e he)⟩;unfold Zk;refine TotP.bindE (Q8s n hn) ?_;refine TotP.cond (fun _ => .ret weak) (fun _=>?_);refine TotP.bind (Qes (by omega) ho c) (fun v hv=>?_);exact Qse (by omega) c n hv.1 (by rw [hv.2];exact ho)
theorem Qq8 {m:Nat} (hm:m≤900) (c n:List UInt8) (id:Int) {v:List Zf×Q2} (hv:v.1.length≤m) (ho:few m v.2) :
  TotP (fun N=>Qn N c n id v N 0) (fun r=>few (m+1) r.2):=by
 have weak:few (m+1) v.2:=⟨Nb ho.1,fun e he=>Nb (ho.2 e he)⟩;refine Q35 (L:=fun N k s=>Qn N c n id v k s) v.1.length (fun _=>True) (fun i hi _=>?_) (fun _=>?_) trivial
 ·show Stp _ _ _ (fun N k=>cond (Q5 .lss (i:Int) ((Q8 Zf.cells v.1).length:Int)) _ _);rw [Q1z,Ql];refine Stp.cond (fun _=>?_) (fun h=>absurd (Ac h) (by omega));refine Stp.idx (Qr hi) ?_;refine Stp.cond (fun _=>Stp.ret weak) (fun _=>?_);refine Stp.idx (Qr hi) ?_;refine Stp.cond (fun _=>Stp.ret weak) (fun _=>?_);rw [w64 _ (by omega)];exact Stp.go (L:=fun N k s=>Qn N c n id v k s) _ ⟨by omega,trivial⟩
 show Stp _ _ _ (fun N k=>cond (Q5 .lss ((v.1.length:Nat):Int) ((Q8 Zf.cells v.1).length:Int)) _ _);rw [Q1z,Ql];refine Stp.cond (fun h=>absurd (Aa h) (by omega)) (fun _=>Stp.fin ?_);refine TotP.bind (Qi2 (by omega) hv _) (fun w hw=>?_);refine TotP.bind (Qhh (by omega) ho c hw) (fun u hu=>?_);exact TotP.ret hu
theorem Qee {m:Nat} (hm:m≤900) {o:Q2} (ho:few m o) (c n:List UInt8) (id:Int) (hn:n.length≤maxLen):TotP (fun N=>Zh N o c n id) (fun r=>few (m+1) r.2):=by
 have weak:few (m+1) o:=⟨Nb ho.1,fun e he=>Nb (ho.2 e he)⟩;unfold Zh;refine TotP.bindE (Q8s n hn) ?_;refine TotP.cond (fun _ => .ret weak) (fun _=>?_);refine TotP.cond (fun _ => .ret weak) (fun _=>?_);refine TotP.cond (fun _ => .ret weak) (fun _=>?_);refine TotP.bind (Qes (by omega) ho c) (fun v hv=>?_)
 have ho2:few m v.2:=by rw [hv.2];exact ho
 have weak2:few (m+1) v.2:=⟨Nb ho2.1,fun e he=>Nb (ho2.2 e he)⟩;refine Q35 (L:=fun N k s=>Qu N c n id v k s) v.1.length (fun _=>True) (fun i hi _=>?_) (fun _=>?_) trivial
 ·have:=hv.1;show Stp _ _ _ (fun N k=>cond (Q5 .lss (i:Int) ((Q8 Zf.cells v.1).length:Int)) _ _);rw [Q1z,Ql];refine Stp.cond (fun _=>?_) (fun h=>absurd (Ac h) (by omega));refine Stp.idx (Qr hi) ?_;refine Stp.cond (fun _=>Stp.ret weak2) (fun _=>?_);rw [w64 _ (by omega)];exact Stp.go (L:=fun N k s=>Qu N c n id v k s) _ ⟨by omega,trivial⟩
 show Stp _ _ _ (fun N k=>cond (Q5 .lss ((v.1.length:Nat):Int) ((Q8 Zf.cells v.1).length:Int)) _ _);rw [Q1z,Ql];refine Stp.cond (fun h=>absurd (Aa h) (by omega)) (fun _=>Stp.fin ?_);exact Qq8 hm c n id hv.1 ho2
theorem Qxc {R:Reg} (hw:WR R) (c n:List UInt8) (hn:n.length≤maxLen):TotP (fun N=>Gz N R c n) (· = Qq5 (Q1e n) R c n):=by
 unfold Gz;refine TotP.bindE (Q75 n hn) ?_;rw [Af hw];exact .ret rfl
theorem Qvf (R:Reg) (c n:List UInt8) (id:Int) (hn:n.length≤maxLen):TotP (fun N=>Jy N R c n id) (· = Qsp (Q1e n) R c n id):=by
 unfold Jy;exact TotP.bindE (Q75 n hn) (.ret rfl)
theorem Qx7 (l:List Wz) (h:l.length≤30) (N:Nat):Q06 N l=some l:=by
 unfold Q06
 cases l with
 | nil=>rfl
 | cons a l=>
  have e:Nat.beq (a::l).length 0=false:=rfl
  have e2:Nat.ble ((0+(a::l).length+4096) * 24) 17592186044416=true:=by rw [Lu];omega
  rw [e,e2];rfl
end
end Go.Av
namespace Go.Av
noncomputable section
theorem okpk_z:Qpk zPk:=by
 constructor<;>first | exact Mj _ | decide | (intro x hx;cases hx) | (constructor<;>first | exact Mj _ | (intro x hx;cases hx))
def there (p:Int) (e:Qa) (d:Bool) (ty:Int):Qa:=⟨p,1,e.Topic,e.Payload,e.QoS,e.Retain,d,e.ID,[],ty,[],0,zPk,zMk,zFk⟩
theorem LE.there {e:Qa} (h:LE e) (p:Int) (d:Bool) (ty:Int):LE (there p e d ty):=
 ⟨h.topic,h.payload,⟨Mj _,fun x hx=>nomatch hx⟩,okpk_z,⟨Mj _,(fun x hx=>nomatch hx),⟨Mj _,Mj _⟩⟩,⟨(fun x hx=>nomatch hx),(by show Q0.szs []<_;decide),(by show Q0.wgts []<_;decide)⟩⟩
theorem LE.szs {e:Qa} (h:LE e):Q0.szs e.Frame.Values<700000000:=Nat.lt_trans h.fb.sz (by decide)
theorem Qqb {e:Qa} {v:Int} (h:LE e) (hv:Tot (fun N=>We N 3 e.Props) v):Tot (fun N=>Ye N e) (Q51 e v):=
 Qxy (Mq h.topic ml2) h.dg.hops h.dg.node h.pk.l h.szs hv
theorem Z18:Tot (fun N=>We N 3 []) 0:=⟨50,fun N hN=>by obtain ⟨M,rfl⟩:∃ M,N=M+50:=⟨N - 50,by omega⟩;kernel_rfl⟩
theorem Qz1 {e:Qa} {v:Int} (h:LE e) (hv:Tot (fun N=>We N 3 e.Props) v) (k:e.Kind=1) :
  Tot (fun N=>Q0p N e ⟨1048576,32⟩) (if Q51 e v≠0 then Q51 e v else if (e.Payload.length:Int)>1048576 then 4 else 0):=by
 refine TotP.tot ?_;unfold Q0p;refine TotP.bindE (v:=true) (.of fun _=>rfl) ?_;refine TotP.cond (fun h=>by cases h) (fun _=>?_);rw [Ym];refine TotP.cond (fun _=>?_) (fun g=>absurd k (Ac g));refine TotP.bindE (Qqb h hv) ?_;rw [X4,Wx];refine TotP.cond (fun g => .ret ?_) (fun g=>?_)
 ·rw [Af (Aa g)]
 rw [Ae (Ac g)];refine TotP.cond (fun g => .ret ?_) (fun g => .ret ?_)
 ·rw [Af (Aa g)]
 rw [Ae (Ac g)]
theorem Qs2 (R:Reg) (cl:List UInt8) {e:Qa} {v:Int} (h:LE e) (hv:Tot (fun N=>We N 3 e.Props) v) (k:e.Kind=1) :
  TotP (fun N=>W8 N R cl e) (fun r=>r.2=R∧(r.1.2=0→e.Proto=3∧(e.Kind=1→Q51 e v=0))):=by
 have hm:=ml2;unfold W8;rw [X4];refine TotP.cond (fun _ => .ret ⟨rfl,fun h=>by cases h⟩) (fun g=>?_)
 have p3:e.Proto=3:=by have:=Ac g;omega
 refine TotP.bindE (v:=⟨1048576,32⟩) (.of fun _=>rfl) ?_;refine TotP.bindE (Qz1 h hv k) ?_;rw [X4];refine TotP.cond (fun g => .ret ⟨rfl,fun h=>absurd h (Aa g)⟩) (fun g=>?_);have c0:=Ac g;have good:e.Proto=3∧(e.Kind=1→Q51 e v=0):=⟨p3,fun _=>Decidable.byContradiction fun hp=>by rw [Af hp] at c0;exact c0 hp⟩;refine TotP.bindE (v:=e.Hops) (.of fun N=>Qx7 _ h.dg.hops N) ?_;have hd:∀ (m:Vi),OkM m→m.Type'=12→∀ l,Any (fun N=>Yg N ⟨e.Hops,m⟩ l):=fun m hm k l=>Qze (d:=⟨e.Hops,m⟩) ⟨h.dg.hops,h.dg.node,hm⟩ k l;have hpub:∀ (f:Qv) (i:Int),OkM ⟨12,f,0,0,0,false,i,e.ID,0,[],e.Payload⟩:=fun f i=>⟨Mj _,Mq h.payload (by decide)⟩
 have fin:∀ (m:Vi),OkM m→m.Type'=12→TotP (fun N=>(Xq N).bind fun v33=>(Yg N (⟨e.Hops,m⟩:Qm) v33).bind fun v35=>
   cond (Q5 .neq v35 0) (some (((⟨[],zMk⟩:Qm),v35),R)) (some (((⟨e.Hops,m⟩:Qm),0),R))) (fun r=>r.2=R∧(r.1.2=0→e.Proto=3∧(e.Kind=1→Q51 e v=0))):=fun m hm hk=>by
  refine TotP.bindE (v:=⟨1048576,32⟩) (.of fun _=>rfl) ?_;refine TotP.bind (hd m hm hk _) (fun w _=>?_);exact TotP.cond (fun _ => .ret ⟨rfl,fun _=>good⟩) (fun _ => .ret ⟨rfl,fun _=>good⟩)
 rw [Ym];refine TotP.cond (fun _=>?_) (fun g=>absurd k (Ac g));refine TotP.cond (fun _=>?_) (fun _=>?_)
 ·refine TotP.bind (f:=fun N=>Gi N ⟨⟩ e.Topic) (V:=fun _=>True) ?_ (fun w _=>?_)
  ·exact TotP.bind (Qmm _ (Mq h.topic hm)) (fun _ _ => .ret trivial)
  exact TotP.cond (fun _ => .ret ⟨rfl,fun _=>good⟩) (fun _=>fin _ (hpub _ _) rfl)
 refine TotP.cond (fun _=>?_) (fun _=>?_)
 ·refine TotP.bindE (v:=(rID R cl e.Topic,R)) (.of fun _=>rfl) ?_;refine TotP.cond (fun _ => .ret ⟨rfl,fun _=>good⟩) (fun _=>?_);refine TotP.bindE (v:=(Q9b R cl (rID R cl e.Topic).1,R)) (.of fun _=>rfl) ?_;exact TotP.cond (fun _ => .ret ⟨rfl,fun _=>good⟩) (fun _=>fin _ (hpub _ _) rfl)
 refine TotP.bindE (v:=(rID R cl e.Topic,R)) (.of fun _=>rfl) ?_;refine TotP.cond (fun _ => .ret ⟨rfl,fun _=>good⟩) (fun _=>?_);refine TotP.bindE (v:=(Q9b R cl (rID R cl e.Topic).1,R)) (.of fun _=>rfl) ?_;exact TotP.cond (fun _ => .ret ⟨rfl,fun _=>good⟩) (fun _=>fin _ (hpub _ _) rfl)
def pOk (p:Int):Prop:=p=1∨p=2∨p=3∨p=4
inductive To28 (R:Reg) (cl:List UInt8) (e:Qa) (p v:Int):Qa×Int→Prop
 | arg (h:¬ pOk p):To28 R cl e p v (zEk,2)
 | bad (h:pOk p) (h0:Q51 e v≠0):To28 R cl e p v (zEk,Q51 e v)
 | own (h:pOk p) (h0:Q51 e v=0) (he:p=e.Proto):To28 R cl e p v (e,0)
 | loss (h:pOk p) (h0:Q51 e v=0) (he:p≠e.Proto) (why:e.Props ≠ []∨(p≠3∧e.QoS<0)∨(p=3∧((e.Topic.length≠2∧(rID R cl e.Topic).2≠0)∨∃ d:(Qm×Int)×Reg,d.1.2≠0 ∧
   Tot (fun N=>W8 N R cl (there 3 e e.Dup (if e.Topic.length=2 then 2 else if Q9b R cl (rID R cl e.Topic).1=true then 1 else 0))) d))):To28 R cl e p v (zEk,15)
 | plain (h:pOk p) (h0:Q51 e v=0) (he:p≠e.Proto) (hpr:e.Props = []) (h3:p≠3) (hq:0≤e.QoS):To28 R cl e p v (there p e (e.Dup&&decide (e.QoS>0)) 0,0)
 | sn (h:p=3) (h0:Q51 e v=0) (he:p≠e.Proto) (hpr:e.Props = []) (ty:Int) (hpub:Q51 (there 3 e e.Dup ty) 0=0):To28 R cl e p v (there 3 e e.Dup ty,0)
open Classical in
theorem Ql2 {e:Qa} {v:Int} (h:Q51 e v=0):(Q1e e.Topic=true∧PubT e (cq e) (Qhb e) (Q2h e))∧(e.Packet=zPk∧e.Msg=zMk∧e.Frame=zFk)∧v=0∧e.Kind=1:=by
 unfold Q51 at h
 by_cases h1:(e.Proto=1∨e.Proto=2∨e.Proto=3∨e.Proto=4)∧e.Kind=1
 ·rw [Ae (Ao h1)] at h
  by_cases h2:Q1e e.Topic=false
  ·rw [Af h2] at h;cases h
  rw [Ae h2] at h
  by_cases h3:PubT e (cq e) (Qhb e) (Q2h e)
  ·rw [Ae (Ao h3)] at h
   by_cases h4:v=0
   ·have hb:=h3.bare;unfold Q2h at hb;exact ⟨⟨by simpa using h2,h3⟩,Aa hb,h4,h1.2⟩
   rw [Af h4] at h;cases h
  rw [Af h3] at h;cases h
 rw [Af h1] at h;cases h
theorem Qv2 {e:Qa} {v:Int} (h:LE e) (h0:Q51 e v=0):Tot (fun N=>Wu N e) e:=by
 have hb:=(Ql2 h0).2.1;have h1:=h.props.len;have h2:=h.dg.hops;have h2:e.Hops.length≤30:=h2;exact Qi0 e (by omega) (by omega) h.pk (by rw [hb.2.2];rfl)
theorem Qsr (R:Reg) (cl:List UInt8) {e:Qa} (p:Int) {v:Int} (h:LE e) (hv:Tot (fun N=>We N 3 e.Props) v):TotP (fun N=>Q0f N R cl e p) (fun r=>r.2=R∧To28 R cl e p v r.1):=by
 have gtr:∀ l:List Z8,Q5 .gtr ((Q8 Z8.cells l).length:Int) 0=decide (l ≠ []):=fun l=>by
  rw [Q6,Wx]
  cases l with
  | nil=>rfl
  | cons a l=>rw [Ad (p:=((a::l).length:Int)>0) (by simp only [Ly];omega),Ad (by simp)]
 have plainT:pOk p→p≠3→TotP (fun N=>(Ye N e).bind fun v2=>cond (Q5 .neq v2 0) (some (((zEk),v2),R)) (cond (Q5 .eql p e.Proto) ((Wu N e).bind fun v6=>some ((v6,0),R))
   (cond (Q5 .gtr ((Q8 Z8.cells e.Props).length:Int) 0) (some (((zEk),15),R)) (cond (Q5 .lss e.QoS 0) (some (((zEk),15),R)) (cond e.Dup
   (some ((there p e (Q5 .gtr e.QoS 0) 0,0),R)) (some ((there p e false 0,0),R))))))) (fun r=>r.2=R∧To28 R cl e p v r.1):=fun hp h3=>by
  refine TotP.bindE (Qqb h hv) ?_;rw [X4,Ym,gtr,Ql,Wx];refine TotP.cond (fun g => .ret ⟨rfl,.bad hp (Aa g)⟩) (fun g=>?_)
  have h0:Q51 e v=0:=by have:=Ac g;omega
  refine TotP.cond (fun g=>TotP.bindE (Qv2 h h0) (.ret ⟨rfl,.own hp h0 (Aa g)⟩)) (fun g=>?_);have he:=Ac g;refine TotP.cond (fun g => .ret ⟨rfl,.loss hp h0 he (.inl (Aa g))⟩) (fun g=>?_)
  have hpr:e.Props = []:=by have:=Ac g;simpa using this
  refine TotP.cond (fun g => .ret ⟨rfl,.loss hp h0 he (.inr (.inl ⟨h3,Aa g⟩))⟩) (fun g=>?_)
  have hq:0≤e.QoS:=by have:=Ac g;omega
  refine TotP.cond (fun g => .ret ⟨rfl,?_⟩) (fun g => .ret ⟨rfl,?_⟩)
  ·have:=To28.plain (R:=R) (cl:=cl) hp h0 he hpr h3 hq;rw [g] at this;exact this
  have:=To28.plain (R:=R) (cl:=cl) hp h0 he hpr h3 hq;rw [g] at this;exact this
 unfold Q0f;refine TotP.cond (fun g=>?_) (fun g1=>?_)
 ·have:p=1:=by simpa using g
  exact plainT (.inl this) (by omega)
 refine TotP.cond (fun g=>?_) (fun g2=>?_)
 ·have:p=2:=by simpa using g
  exact plainT (.inr (.inl this)) (by omega)
 refine TotP.cond (fun g=>?_) (fun g3=>?_)
 ·have p3:p=3:=by simpa using g
  have hp:pOk p := .inr (.inr (.inl p3));refine TotP.bindE (Qqb h hv) ?_;rw [X4,Ym,gtr,Ym];refine TotP.cond (fun g => .ret ⟨rfl,.bad hp (Aa g)⟩) (fun g=>?_)
  have h0:Q51 e v=0:=by have:=Ac g;omega
  refine TotP.cond (fun g=>TotP.bindE (Qv2 h h0) (.ret ⟨rfl,.own hp h0 (Aa g)⟩)) (fun g=>?_);have he:=Ac g;refine TotP.cond (fun g => .ret ⟨rfl,.loss hp h0 he (.inl (Aa g))⟩) (fun g=>?_)
  have hpr:e.Props = []:=by have:=Ac g;simpa using this
  have ft:∀ ty,TotP (fun N=>W8 N R cl (there 3 e e.Dup ty)) (fun r=>r.2=R∧(r.1.2=0→(there 3 e e.Dup ty).Proto=3∧((there 3 e e.Dup ty).Kind=1→Q51 (there 3 e e.Dup ty) 0=0))):=fun ty=>Qs2 R cl (h.there _ _ _) Z18 rfl
  have ret:∀ (ty:Int) (d:(Qm×Int)×Reg),Tot (fun N=>W8 N R cl (there 3 e e.Dup ty)) d→d.2=R∧(d.1.2=0→(there 3 e e.Dup ty).Proto=3∧((there 3 e e.Dup ty).Kind=1→Q51 (there 3 e e.Dup ty) 0=0)) →
    ty=(if e.Topic.length=2 then 2 else if Q9b R cl (rID R cl e.Topic).1=true then 1 else 0) →
    TotP (fun N=>(W8 N R cl (there p e e.Dup ty)).bind fun v30=>cond (Q5 .neq v30.1.2 0) (some (((zEk),15),v30.2)) (some ((there p e e.Dup ty,0),v30.2))) (fun r=>r.2=R∧To28 R cl e p v r.1):=fun ty d hd hq hty=>by
   subst p3;refine TotP.bindE hd ?_;rw [X4];refine TotP.cond (fun g => .ret ⟨hq.1,.loss hp h0 he (.inr (.inr ⟨rfl,.inr ⟨d,Aa g,by rw [← hty];exact hd⟩⟩))⟩) (fun g => .ret ⟨hq.1,.sn rfl h0 he hpr ty ((hq.2 (by have:=Ac g;omega)).2 rfl)⟩)
  refine TotP.cond (fun g=>?_) (fun g=>?_)
  ·have hl:e.Topic.length=2:=by have:=Aa g;omega
   obtain ⟨d,hq,hd⟩:=ft 2;exact ret 2 d hd hq (by rw [Af hl])
  have hl:¬ e.Topic.length=2:=fun e2=>(Ac g) (by omega);refine TotP.bindE (v:=(rID R cl e.Topic,R)) (.of fun _=>rfl) ?_;rw [X4];refine TotP.cond (fun g => .ret ⟨rfl,.loss hp h0 he (.inr (.inr ⟨p3,.inl ⟨hl,Aa g⟩⟩))⟩) (fun _=>?_);refine TotP.bindE (v:=(Q9b R cl (rID R cl e.Topic).1,R)) (.of fun _=>rfl) ?_;refine TotP.cond (fun g=>?_) (fun g=>?_)
  ·obtain ⟨d,hq,hd⟩:=ft 1;exact ret 1 d hd hq (by rw [Ae hl,Af g])
  obtain ⟨d,hq,hd⟩:=ft 0;exact ret 0 d hd hq (by rw [Ae hl,Ae (by intro h2;rw [show Q9b R cl (rID R cl e.Topic).1=false from g] at h2;cases h2)])
 refine TotP.cond (fun g=>?_) (fun g4=>?_)
 ·have:p=4:=by simpa using g
  exact plainT (.inr (.inr (.inr this))) (by omega)
 refine .ret ⟨rfl,.arg ?_⟩;simp at g1 g2 g3 g4
 rintro (h | h | h | h)<;>omega
theorem Qrw (R:Reg) (cl:List UInt8) {e:Qa} (p:Int) {r:(Qa×Int)×Reg} (h:Tot (fun N=>Q0f N R cl e p) r) (hr:r.2=R):Tot (fun N=>Q09 N R cl e p) (decide (r.1.2=0),R):=by
 refine TotP.tot ?_;unfold Q09;refine TotP.bindE h ?_;rw [Ym,hr];exact .ret rfl
end
end Go.Av
namespace Go.Av
noncomputable section
def Qhu (t:List Qd):List (List UInt8×List UInt8×Int):=t.map fun y=>(y.Client,y.Name,y.ID)
def Qut (t:List Qd) (N:Nat) (i:Int) (c:List Q1) (R:Reg) (go:Int→List Q1→Reg→Option Bool):Option Bool:=
 (idx t i).bind fun y103=>
 cond (Q5 .eql y103.ID 0)
 ((idx t i).bind fun y110=>
 (idx t i).bind fun y112=>
 (Gz N R y110.Client y112.Name).bind fun v114=>
 (idx t i).bind fun y116=>
 (idx t i).bind fun y118=>
 (Zk N (⟨c⟩:Q2) y116.Client y118.Name).bind fun v120=>
 go (wrap .i64 (i+1)) v120.2.L v114.2)
 ((idx t i).bind fun y128=>
 (idx t i).bind fun y130=>
 (idx t i).bind fun y132=>
 (Jy N R y128.Client y130.Name y132.ID).bind fun v134=>
 (idx t i).bind fun y136=>
 (idx t i).bind fun y138=>
 (idx t i).bind fun y140=>
 (Zh N (⟨c⟩:Q2) y136.Client y138.Name y140.ID).bind fun v142=>
 go (wrap .i64 (i+1)) v142.2.L v134.2)
theorem Qoa {t:List Qd} (ht:t.length≤20) (hn:∀ y∈t,y.Name.length≤maxLen) {L:Nat→Nat→Int→List Q1→Reg→Option Bool} {K:Nat→Reg→Option Bool} {Q:Bool→Prop}
  (hL:∀ N n i c R,L N (n+1) i c R=cond (Q5 .lss i (t.length:Int)) (Qut t N i c R (L N n)) (K N R)) (hK:TotP (fun N=>K N (Qpo Q1e (Qhu t))) Q):TotP (fun N=>L N N 0 [] []) Q:=by
 refine Q60 (S:=Int×List Q1×Reg) (L:=fun N n s=>L N n s.1 s.2.1 s.2.2) (fun s=>∃ i:Nat,s.1=(i:Int)∧i≤t.length∧few i ⟨s.2.1⟩∧s.2.2=Qpo Q1e (Qhu (t.take i))) (fun s=>t.length - s.1.toNat) ?_ (0,[],[]) ⟨0,rfl,Mj _,⟨Lj _,fun e h=>by cases h⟩,rfl⟩
 rintro ⟨j,c,R⟩ ⟨i,hj,hi,hf,hR⟩
 simp only at hj hf hR
 subst hj
 have e0:(fun N n=>L N (n+1) (i:Int) c R)=fun N n=>cond (Q5 .lss (i:Int) (t.length:Int)) (Qut t N i c R (L N n)) (K N R):=by funext N n;exact hL _ _ _ _ _
 show Stp _ _ _ (fun N n=>L N (n+1) (i:Int) c R);rw [e0,Ql];dsimp only;refine Stp.cond (fun h=>?_) (fun h=>?_)
 ·have hlt:i<t.length:=by have:=Aa h;omega
  have hw:WR R:=by rw [hR];exact Qwg _ _
  have hln:=hn _ (Mi hlt)
  have ew:wrap .i64 ((i:Int)+1)=((i+1:Nat):Int):=by rw [w64 _ (by omega)];omega
  have fold:∀ q,Qhu (t.take (i+1))=Qhu (t.take i) ++ [q]→Qpo Q1e (Qhu (t.take (i+1)))=Qkp Q1e R q:=fun q hq=>by
   rw [hq,Qpo,List.foldl_append,hR];rfl
  have etr:Qhu (t.take (i+1))=Qhu (t.take i) ++ [(t[i].Client,t[i].Name,t[i].ID)]:=by
   unfold Qhu;rw [List.take_add_one,Dd,Lc hlt];rfl
  have hfold:=fold _ etr;refine Stp.idx (Qr hlt) ?_;rw [Ym];refine Stp.cond (fun h0=>?_) (fun h0=>?_)
  ·have h0:=Aa h0;refine Stp.idx (Qr hlt) ?_;refine Stp.idx (Qr hlt) ?_;refine Stp.bind (Qxc hw _ _ hln) (fun v hv=>?_);subst hv;refine Stp.idx (Qr hlt) ?_;refine Stp.idx (Qr hlt) ?_;refine Stp.bind (Qft (by omega) hf _ _ hln) (fun u hu=>?_);rw [ew];refine Stp.go (L:=fun N n (s:Int×List Q1×Reg)=>L N n s.1 s.2.1 s.2.2) (((i+1:Nat):Int),u.2.L,(Qq5 (Q1e t[i].Name) R t[i].Client t[i].Name).2) ⟨⟨i+1,rfl,hlt,hu,?_⟩,by simp only [Lx];omega⟩;rw [hfold];simp only [Qkp];rw [Af h0]
  have h0:=Ac h0;refine Stp.idx (Qr hlt) ?_;refine Stp.idx (Qr hlt) ?_;refine Stp.idx (Qr hlt) ?_;refine Stp.bind (Qvf _ _ _ _ hln) (fun v hv=>?_);subst hv;refine Stp.idx (Qr hlt) ?_;refine Stp.idx (Qr hlt) ?_;refine Stp.idx (Qr hlt) ?_;refine Stp.bind (Qee (by omega) hf _ _ _ hln) (fun u hu=>?_);rw [ew];refine Stp.go (L:=fun N n (s:Int×List Q1×Reg)=>L N n s.1 s.2.1 s.2.2) (((i+1:Nat):Int),u.2.L,(Qsp (Q1e t[i].Name) R t[i].Client t[i].Name t[i].ID).2) ⟨⟨i+1,rfl,hlt,hu,?_⟩,by simp only [Lx];omega⟩;rw [hfold];simp only [Qkp];rw [Ae h0]
 have:i=t.length:=by have:=Ac h;omega
 subst this;refine Stp.fin ?_;rw [hR,Ca];exact hK
theorem Qvd (t:List Qd) (ht:t.length≤maxLen):TotP (fun N=>Ub N t) (fun v=>v=true→t.length≤20∧∀ y∈t,y.Name.length≤200):=by
 have hm:=Q3n;refine Q35 (L:=fun N n s=>Yc N t n s) t.length (fun i=>∀ j (h:j<t.length),j<i→(t[j]).Name.length≤200) (fun i hi hj=>?_) (fun hj=>?_) (fun j _ hj=>by omega)
 ·show Stp _ _ _ (fun N n=>cond (Q5 .lss (i:Int) ((Q8 Qd.cells t).length:Int)) _ _);rw [Q6,Ql];refine Stp.cond (fun _=>?_) (fun h=>by have:=Ac h;omega);refine Stp.idx (Qr hi) ?_;refine Stp.cond (fun _=>Stp.ret (fun h=>nomatch h)) (fun _=>?_);refine Stp.idx (Qr hi) ?_;rw [Wx];refine Stp.cond (fun _=>Stp.ret (fun h=>nomatch h)) (fun h1=>?_);have h1:=Ac h1;rw [w64 _ (by omega)];refine Stp.go (L:=fun N n s=>Yc N t n s) _ ⟨by omega,fun j hj' hji=>?_⟩
  by_cases e:j=i
  ·subst e;omega
  exact hj j hj' (by omega)
 show Stp _ _ _ (fun N n=>cond (Q5 .lss (t.length:Int) ((Q8 Qd.cells t).length:Int)) _ _);rw [Q6,Ql];refine Stp.cond (fun h=>by have:=Aa h;omega) (fun _=>Stp.ret (fun h=>?_));rw [Vd] at h;have h:=Aa h;refine ⟨by omega,fun y hy=>?_⟩;obtain ⟨j,hj',rfl⟩:=Nh hy;exact hj j hj' hj'
end
end Go.Av
namespace Go.Av
noncomputable section
theorem Qyc (N:Nat) (h:Wz):Vy N h=some (Qn8 h):=by
 unfold Vy Qn8;rw [Us,Vd,Us,Vd]
 by_cases h1:h.Radius≥0<;>by_cases h2:h.Radius≤3<;>by_cases h3:(h.Node.length:Int)≥1<;>by_cases h4:(h.Node.length:Int)≤32<;>simp [h1,h2,h3,h4]<;>omega
section
variable (l:List Wz)
theorem Qvw (h4:l.length≤4) (hn:∀ x∈l,x.Node.length≤32):TotP (fun N=>Wy N ⟨l,Qjo⟩) (fun s=>s.length≤1000):=by
 unfold Wy;refine Q60 (L:=fun N n (q:List UInt8×Int)=>Yd N ⟨l,Qjo⟩ n q.1 q.2) (fun q=>∃ i:Nat,q.2=(i:Int)∧i≤l.length∧q.1.length≤40 * i) (fun q=>l.length - q.2.toNat) ?_ ([],0) ⟨0,rfl,Mj _,Mj _⟩
 rintro ⟨o,s⟩ ⟨i,hs,hi,hq⟩
 simp only at hs hq
 subst hs;show Stp _ _ _ (fun N n=>cond (Q5 .lss (i:Int) ((Q8 Wz.cells l).length:Int)) _ _);rw [Q6,Ql];dsimp only;refine Stp.cond (fun hx=>?_) (fun _=>?_)
 ·have hx:=Aa hx
  have hi:i<l.length:=by omega
  refine Stp.idx (Qr hi) ?_;have hf:=hn _ (Mi hi);generalize l[i]=y at hf
  have e1:wrap .i64 ((i:Int)+1)=((i+1:Nat):Int):=by rw [w64 _ (by omega)];omega
  refine Stp.chk (by rw [Lu];simp;omega) ?_;refine Stp.chk (by rw [Lu];simp;omega) ?_;rw [e1];exact Stp.go (L:=fun N n (q:List UInt8×Int)=>Yd N ⟨l,Qjo⟩ n q.1 q.2) (_,((i+1:Nat):Int)) ⟨⟨i+1,rfl,by omega,by simp;omega⟩,by simp;omega⟩
 refine Stp.bind (V:=fun v=>v=([2,23],0)) ⟨_,rfl,.of fun _=>rfl⟩ (fun v hv=>?_);subst hv;exact Stp.chk (by rw [Lu];simp;omega) (Stp.ret (by simp;omega))
theorem Qvl (hl:l.length≤30):TotP (fun N=>V0 N ⟨l,Qjo⟩ ⟨1048576,32⟩) (fun v=>decide (v=0)=Q97 l):=by
 unfold V0;refine TotP.bindE (v:=true) (.of fun _=>rfl) ?_;refine TotP.cond (fun h=>by cases h) (fun _=>?_);show TotP (fun N=>cond (Q5 .gtr ((Q8 Wz.cells l).length:Int) 4) _ _) _;rw [Q6,Wx];refine TotP.cond (fun h => .ret ?_) (fun h4=>?_)
 ·have h:=Aa h;unfold Q97;rw [Ab (p:=l.length≤4) (by omega)];rfl
 have h4:l.length≤4:=by have:=Ac h4;omega
 refine Q35 (L:=fun N n i=>Yb N ⟨l,Qjo⟩ ⟨1048576,32⟩ n i) l.length (fun i=>∀ j (h:j<l.length),j<i→Qn8 l[j]=true) (fun i hi hj=>?_) (fun hj=>?_) (fun j _ hj=>by omega)
 ·show Stp _ _ _ (fun N n=>cond (Q5 .lss (i:Int) ((Q8 Wz.cells l).length:Int)) _ _);rw [Q6,Ql];refine Stp.cond (fun _=>?_) (fun h=>by have:=Ac h;omega);refine Stp.idx (Qr hi) ?_;refine Stp.bind (V:=fun v=>v=Qn8 l[i]) ⟨_,rfl,.of fun N=>Qyc N _⟩ (fun v hv=>?_);refine Stp.cond (fun h=>Stp.ret ?_) (fun h=>?_)
  ·rw [hv] at h
   have:l.all Qn8=false:=by
    rw [Bool.eq_false_iff];intro hA;have:=Lp.1 hA _ (Mi hi);rw [this] at h;cases h
   unfold Q97;rw [this];simp
  rw [w64 _ (by omega)];refine Stp.go (L:=fun N n i=>Yb N ⟨l,Qjo⟩ ⟨1048576,32⟩ n i) _ ⟨by omega,fun j hj' hji=>?_⟩
  by_cases e:j=i
  ·subst e;rw [hv] at h;exact pB h
  exact hj j hj' (by omega)
 show Stp _ _ _ (fun N n=>cond (Q5 .lss ((l.length:Nat):Int) ((Q8 Wz.cells l).length:Int)) _ _);rw [Q6,Ql]
 have hA:∀ x∈l,Qn8 x=true:=fun x hx=>by
  obtain ⟨j,hj',rfl⟩:=Nh hx;exact hj j hj' hj'
 refine Stp.cond (fun h=>by have:=Aa h;omega) (fun _=>?_)
 have e:Q97 l=true:=by unfold Q97;rw [Ad h4,Lp.2 hA];rfl
 rw [e];refine Stp.bind (V:=fun v=>v=0) ⟨_,rfl,.of fun _=>rfl⟩ (fun v hv=>?_);subst hv;refine Stp.cond (fun _=>?_) (fun h=>by cases h);refine Stp.bind (Qvw l h4 fun x hx=>by have:=hA x hx;unfold Qn8 at this;exact (Aa this).2.2.2) (fun s hs=>?_);rw [Wx];exact Stp.cond (fun h=>by have h:(s.length:Int)>1048576:=Aa h;omega) (fun _=>Stp.ret rfl)
end
theorem Qy6 (l:List Wz) (hl:l.length≤30):Tot (fun N=>Vh N l) (Q97 l):=by
 refine TotP.tot ?_;unfold Vh;refine TotP.bindE (v:=⟨1048576,32⟩) (.of fun _=>rfl) ?_;refine TotP.bind (Qvl l hl) (fun v hv => .ret ?_);rw [Ym];exact hv
theorem Z0k (s:List UInt8) (hs:s.length≤maxLen):Any (fun N=>Wi N s):=by
 have hm:=Q3n;unfold Wi;refine Q60 (L:=fun N n (q:Int×Int)=>Y8 N s n q.1 q.2) (fun q=>∃ i:Nat,q.2=(i:Int)∧i≤s.length) (fun q=>s.length - q.2.toNat) ?_ (0,0) ⟨0,rfl,Mj _⟩
 rintro ⟨o,j⟩ ⟨i,hj,hi⟩
 simp only at hj
 subst hj;show Stp _ _ _ (fun N n=>cond (Q5 .lss (i:Int) (s.length:Int)) _ _);rw [Ql];dsimp only;refine Stp.cond (fun hx=>?_) (fun _=>Stp.ret trivial);have hx:=Aa hx
 have hi:i<s.length:=by omega
 refine Stp.idx (Qr hi) ?_
 have e1:wrap .i64 ((i:Int)+1)=((i+1:Nat):Int):=by rw [w64 _ (by omega)];omega
 rw [e1];exact Stp.go (L:=fun N n (q:Int×Int)=>Y8 N s n q.1 q.2) (_,((i+1:Nat):Int)) ⟨⟨i+1,rfl,by omega⟩,by simp;omega⟩
theorem Qwy (s:List UInt8) (hs:s.length≤maxLen):TotP (fun N=>Ww N s) (fun v=>v.2=Q9v s):=by
 unfold Ww Q9v;rw [X4];refine TotP.cond (fun h => .ret ?_) (fun h=>?_)
 ·have:¬ s.length=2:=fun e=>(Aa h) (by omega);rw [Ab this];rfl
 have h:s.length=2:=by have:=Ac h;omega
 rw [Ad h];refine TotP.bindE (Q8s s hs) ?_;refine TotP.cond (fun g => .ret (by simpa using g)) (fun g=>?_);exact TotP.bind (Z0k s hs) (fun _ _ => .ret (by simpa using g))
def snB (e:Qa):Bool:=cond (decide (e.Proto≠3)) (decide (e.Type'=0∧e.Hops.length=0)) (Qhb e)
theorem Zj8 {e:Qa} (ht:e.Topic.length≤maxLen) (hl:e.Hops.length≤30):Tot (fun N=>W5 N e) (snB e):=by
 refine TotP.tot ?_;unfold W5 snB Qhb;rw [X4];refine TotP.cond (fun g=>?_) (fun g=>?_)
 ·rw [g];show TotP _ (fun r=>r=decide (e.Type'=0∧e.Hops.length=0));rw [Ym,Ym,Q6];refine TotP.cond (fun g2 => .ret ?_) (fun g2 => .ret ?_)
  ·have:=Aa g2
   by_cases h:e.Hops.length=0
   ·rw [Ad (by omega),Ad ⟨this,h⟩]
   rw [Ab (by omega),Ab (by omega)]
  have:=Ac g2;rw [Ab (by omega)]
 rw [g];show TotP _ (fun r=>r=(decide (0≤e.Type'∧e.Type'≤2)&&((!(decide (e.Type'=2))||Q9v e.Topic)&&Q97 e.Hops)));refine TotP.bind (Qwy _ ht) (fun v hv=>?_);rw [Us,Vd,X4,hv];refine TotP.cond (fun g1=>?_) (fun g1 => .ret ?_)
 ·have g1:=Aa g1;refine TotP.cond (fun g2=>?_) (fun g2 => .ret ?_)
  ·have g2:=Aa g2;rw [Ad (p:=0≤e.Type'∧e.Type'≤2) ⟨g1,g2⟩];refine TotP.bindE (Qy6 _ hl) ?_;refine TotP.cond (fun g3=>?_) (fun g3 => .ret (by rw [g3];simp));rw [g3];refine TotP.cond (fun g4 => .ret ?_) (fun g4 => .ret ?_)
   ·rw [Ab (p:=e.Type'=2) (Aa g4)];rfl
   rw [Ad (p:=e.Type'=2) (by have:=Ac g4;omega)];simp
  have g2:=Ac g2;rw [Ab (p:=0≤e.Type'∧e.Type'≤2) (by omega)];rfl
 have g1:=Ac g1;rw [Ab (p:=0≤e.Type'∧e.Type'≤2) (by omega)];rfl
open Classical in
theorem Qxs {e:Qa} (hpk:Qvs e.Packet) (hs:Q0.szs e.Frame.Values<700000000):Tot (fun N=>Yw N e) (Q2h e):=by
 have key:TotP (fun N=>Yw N e) (fun v=>v=true↔e.Packet=zPk∧e.Msg=zMk∧e.Frame=zFk):=by
  unfold Yw;refine TotP.bind (Qaz e.Packet zPk hpk) (fun v hv=>?_);refine TotP.cond (fun g=>?_) (fun g => .ret ⟨fun h=>absurd h (by decide),fun h=>absurd (hv.2 h.1) (by rw [g];decide)⟩)
  refine TotP.cond (fun g2=>?_) (fun g2 => .ret ⟨fun h=>absurd h (by decide),fun h=>absurd ((Qny e.Msg zMk).2 h.2.1) (by
   intro h3;have:false=true:=g2.symm.trans h3;cases this)⟩)
  refine TotP.bind (V:=fun v=>v=true↔e.Frame=zFk) ⟨decide (e.Frame=zFk),decide_eq_true_iff,800000000,fun N hN=>Qao hN _ _ hs⟩ (fun w hw => .ret ⟨fun h=>⟨hv.1 g,(Qny e.Msg zMk).1 g2,hw.1 h⟩,fun h=>hw.2 h.2.2⟩)
 obtain ⟨v,hv,ht⟩:=key
 have:v=Q2h e:=by
  unfold Q2h
  by_cases h:e.Packet=zPk∧e.Msg=zMk∧e.Frame=zFk
  ·rw [hv.2 h,Ad h]
  rw [Ab h]
  cases v with
  | false=>rfl
  | true=>exact absurd (hv.1 rfl) h
 rw [← this];exact ht
theorem rJ5 {N:Nat} {e:Qa} (hs:W5 N e=some (snB e)) (s:Bool):Y5 N (Qj N e) e s=Qj N e (s||(decide (0<e.Props.length∧e.Proto≠2) || !(snB e))):=by
 have j6:∀ q,Yk N (Qj N e) e q=Qj N e (q || !(snB e)):=fun q=>by
  unfold Yk;rw [hs];cases q<;>rfl
 unfold Y5;simp only [j6,Wx,X4,Q6]
 cases s with
 | true=>rfl
 | false=>
  show cond (decide ((e.Props.length:Int)>0)) _ _=Qj N e (decide _||_);refine Qb8 (fun g=>?_) (fun g=>?_)
  ·have g:=Aa g
   by_cases h:e.Proto≠2
   ·rw [Ad h,Ad (p:=0<e.Props.length∧e.Proto≠2) ⟨by omega,h⟩]
   rw [Ab h,Ab (p:=0<e.Props.length∧e.Proto≠2) (fun x=>h x.2)]
  rw [Ab (p:=0<e.Props.length∧e.Proto≠2) (by have:=Ac g;omega)]
section
variable {N:Nat} {e:Qa} {b:Bool} {v:Int} (hn:Yy N e.Topic=some (Q1e e.Topic)) (hs:W5 N e=some (snB e)) (hb:Yw N e=some b) (hv:Xp N 3 e.Props=some v)
def Qv0 (v:Int) (s:Bool):Option Int:=cond s (some 2) (cond (decide (v≠0)) (some 9) (some 0))
include hv
theorem rJ7 (s:Bool):Zd N e s=Qv0 v s:=by
 unfold Zd Qv0;rw [hv];simp only [Lh,X4]
include hb
theorem rJ4 (s:Bool):Qj N e s=Qv0 v (s||(!(decide ((0≤e.Channel∧e.Channel≤65535)∧(e.Channel≠0→e.Proto=4))&&b))):=by
 unfold Qj;simp only [rJ7 hv,hb,Lh,Ql,Wx,X4]
 cases s with
 | true=>rfl
 | false=>
  show cond (decide (e.Channel<0)) _ _=Qv0 v (!(decide _&&b));refine Qb8 (fun g=>?_) (fun g=>?_)
  ·rw [Ab (p:=_∧_) (by have:=Aa g;omega)];rfl
  have g:=Ac g;refine Qb8 (fun g2=>?_) (fun g2=>?_)
  ·rw [Ab (p:=_∧_) (by have:=Aa g2;omega)];rfl
  have g2:=Ac g2;refine Qb8 (fun g3=>?_) (fun g3=>?_)
  ·have g3:=Aa g3;refine Qb8 (fun g4=>?_) (fun g4=>?_)
   ·rw [Ab (p:=(0≤e.Channel∧e.Channel≤65535)∧(e.Channel≠0→e.Proto=4)) (fun h=>Aa g4 (h.2 g3))];rfl
   rw [Ad (p:=_∧_) ⟨by omega,fun _=>by have:=Ac g4;omega⟩];rfl
  rw [Ad (p:=_∧_) ⟨by omega,fun h=>absurd h (Ac g3)⟩];rfl
include hs
def Qkh (e:Qa) (b a:Bool):Bool:=(e.Dup&&(!a&&decide (e.Proto≠3)))||(decide (0<e.Props.length∧e.Proto≠2) || !(snB e))||(!(decide ((0≤e.Channel∧e.Channel≤65535)∧(e.Channel≠0→e.Proto=4))&&b))
theorem rJ3 (a s:Bool):Zc N e a s=Qv0 v (s||Qkh e b a):=by
 unfold Zc;simp only [rJ5 hs,rJ4 hb hv,X4];unfold Qkh
 cases s with
 | true=>rfl
 | false=>cases e.Dup<;>cases a<;>rfl
theorem rJ2 (least:Int) (a:Bool):Zp N e least a=Qv0 v (!(decide ((least≤e.QoS∧e.QoS≤2)∧(0≤e.ID∧e.ID≤65535)∧decide (e.ID≠0)=a))||Qkh e b a):=by
 unfold Zp;simp only [rJ3 hs hb hv,X4,Ql,Wx];refine Qb8 (fun g=>?_) (fun g=>?_)
 ·rw [Ab (p:=_∧_) (by have:=Aa g;omega)];rfl
 have g:=Ac g;refine Qb8 (fun g2=>?_) (fun g2=>?_)
 ·rw [Ab (p:=_∧_) (by have:=Aa g2;omega)];rfl
 have g2:=Ac g2;refine Qb8 (fun g3=>?_) (fun g3=>?_)
 ·rw [Ab (p:=_∧_) (by have:=Aa g3;omega)];rfl
 have g3:=Ac g3;refine Qb8 (fun g4=>?_) (fun g4=>?_)
 ·rw [Ab (p:=_∧_) (by have:=Aa g4;omega)];rfl
 have g4:=Ac g4
 by_cases h:decide (e.ID≠0)=a
 ·rw [Ad (p:=_∧_) ⟨by omega,by omega,h⟩,h];simp
 rw [Ab (p:=_∧_) (fun x=>h x.2.2)]
 have:(decide (e.ID≠0) == a)=false:=by simpa using h
 rw [this]
include hn
theorem Zlv (hbe:b=Q2h e):Zt N e=some (Q51 e v):=by
 have j1:∀ l,Yi N e l=Zp N e l (cq e):=fun l=>by
  unfold Yi cq;rw [Ym,Ym];cases decide (e.QoS=1)<;>rfl
 have j0:∀ s,Zo N e s=cond s (some 2) (cond (!(Q1e e.Topic)) (some 10) (Zp N e (if e.Proto=3 then -1 else 0) (cq e))):=fun s=>by
  unfold Zo;rw [hn];simp only [Lh,j1,Ym]
  cases s with
  | true=>rfl
  | false=>
   show cond (!Q1e e.Topic) _ _=cond (!Q1e e.Topic) _ _
   congr 1
   refine Qb8 (fun g=>?_) (fun g=>?_)
   ·rw [Af (Aa g)]
   rw [Ae (Ac g)]
 have top:Zt N e=Zo N e (!(decide ((e.Proto=1∨e.Proto=2∨e.Proto=3∨e.Proto=4)∧e.Kind=1))):=by
  unfold Zt;rw [Ql,Wx,X4];refine Qb8 (fun g=>?_) (fun g=>?_)
  ·rw [Ab (p:=_∧_) (by have:=Aa g;omega)];rfl
  have g:=Ac g;refine Qb8 (fun g2=>?_) (fun g2=>?_)
  ·rw [Ab (p:=_∧_) (by have:=Aa g2;omega)];rfl
  have g2:=Ac g2
  by_cases h:e.Kind=1
  ·rw [Ab (p:=e.Kind≠1) (by omega),Ad (p:=_∧_) ⟨by omega,h⟩];rfl
  rw [Ad (p:=e.Kind≠1) h,Ab (p:=_∧_) (fun x=>h x.2)];rfl
 rw [top,j0,rJ2 hs hb hv];unfold Q51
 by_cases h1:(e.Proto=1∨e.Proto=2∨e.Proto=3∨e.Proto=4)∧e.Kind=1
 ·rw [Ae (Ao h1),Ad h1]
  cases hw:Q1e e.Topic with
  | false=>rfl
  | true=>
   rw [Ae (show ¬ ((true:Bool)=false) from fun h=>by cases h)];show Qv0 v _=_
   have key:(!(decide (((if e.Proto=3 then -1 else 0)≤e.QoS∧e.QoS≤2)∧(0≤e.ID∧e.ID≤65535)∧decide (e.ID≠0)=cq e))||Qkh e b (cq e))=false↔PubT e (cq e) (Qhb e) (Q2h e):=by
    unfold Qkh;simp only [Bool.or_eq_false_iff,Bool.not_eq_false',Ag,Lb,Cc,An];constructor
    ·rintro ⟨⟨q1,q2,q3⟩,⟨q4,q5,q6⟩,q7,q8⟩
     refine ⟨h1.1,h1.2,?_,q2,q3.symm,fun d=>?_,fun hp=>?_,fun p3=>?_,fun p3=>?_,q7.1,q7.2,by rw [← hbe];exact q8⟩
     ·by_cases p3:e.Proto=3
      ·rw [Af p3] at q1;by_cases e.QoS = -1
       ·exact .inr ⟨p3,by assumption⟩
       exact .inl (by omega)
      rw [Ae p3] at q1;exact .inl q1
     ·rcases q4 with q4 | q4 | q4
      ·rw [q4] at d;cases d
      ·exact .inl (by cases hc:cq e with
       | true=>rfl
       | false=>rw [hc] at q4;cases q4)
      exact .inr (by omega)
     ·exact Decidable.byContradiction fun hh=>q5 ⟨hp,hh⟩
     ·unfold snB at q6;rw [Ab (p:=e.Proto≠3) (by omega)] at q6;exact q6
     unfold snB at q6;rw [Ad (p:=e.Proto≠3) p3] at q6;exact Aa q6
    rintro ⟨p1,p2,p3,p4,p5,p6,p7,p8,p9,p10,p11,p12⟩
    refine ⟨⟨?_,p4,p5.symm⟩,⟨?_,?_,?_⟩,⟨p10,p11⟩,by rw [hbe];exact p12⟩
    ·by_cases q:e.Proto=3
     ·rw [Af q];omega
     rw [Ae q];omega
    ·cases hd:e.Dup with
     | false=>exact .inl rfl
     | true=>
      rcases p6 hd with h | h
      ·exact .inr (.inl (by rw [h]))
      exact .inr (.inr (by omega))
    ·exact fun x=>x.2 (p7 x.1)
    unfold snB
    by_cases q:e.Proto=3
    ·rw [Ab (p:=e.Proto≠3) (by omega)];exact p8 q
    rw [Ad (p:=e.Proto≠3) q];exact Ad (p9 q)
   by_cases h2:PubT e (cq e) (Qhb e) (Q2h e)
   ·rw [Ae (Ao h2),key.2 h2];unfold Qv0
    by_cases h3:v=0
    ·rw [Ae (Ao h3),Ab (p:=v≠0) (by omega)];rfl
    rw [Af h3,Ad (p:=v≠0) h3];rfl
   rw [Af h2]
   have:(!(decide (((if e.Proto=3 then -1 else 0)≤e.QoS∧e.QoS≤2)∧(0≤e.ID∧e.ID≤65535)∧decide (e.ID≠0)=cq e))||Qkh e b (cq e))=true:=by
    cases hh:(!(decide (((if e.Proto=3 then -1 else 0)≤e.QoS∧e.QoS≤2)∧(0≤e.ID∧e.ID≤65535)∧decide (e.ID≠0)=cq e))||Qkh e b (cq e)) with
    | true=>rfl
    | false=>exact absurd (key.1 hh) h2
   rw [this];rfl
 rw [Af h1,Ab h1];rfl
end
theorem Qxk {e:Qa} {v:Int} (h:LE e) (hv:Tot (fun N=>Xp N 3 e.Props) v):Tot (fun N=>Zt N e) (Q51 e v):=by
 obtain ⟨N1,hn⟩:=Q8s e.Topic (Mq h.topic ml2);obtain ⟨N2,hs⟩:=Zj8 (e:=e) (Mq h.topic ml2) h.dg.hops;obtain ⟨N3,hb⟩:=Qxs h.pk.l h.szs;obtain ⟨N4,hv⟩:=hv;exact ⟨max (max N1 N2) (max N3 N4),fun N hN=>Zlv (hn N (by omega)) (hs N (by omega)) (hb N (by omega)) (hv N (by omega)) rfl⟩
end
end Go.Av
namespace Go.Av
noncomputable section
theorem Qey:∀ n:Nat,n≤100000→TotP (fun N=>Yz N (n:Int)) (fun s=>s.length≤n+1):=by
 intro n
 induction n using Nat.strongRecOn with
 | _ n ih=>
  intro hn;refine TotP.succ (g:=fun N=>Wh (Yz N) N (n:Int)) (fun N=>rfl) ?_;unfold Wh;rw [Ql];refine TotP.cond (fun h=>?_) (fun h=>?_)
  ·have h:n<10:=by have:=Aa h;omega
   have:n=0∨n=1∨n=2∨n=3∨n=4∨n=5∨n=6∨n=7∨n=8∨n=9:=by omega
   rcases this with rfl | rfl | rfl | rfl | rfl | rfl | rfl | rfl | rfl | rfl<;>exact ⟨_,(by decide),.of fun N=>rfl⟩
  have h:¬ n<10:=by have:=Ac h;omega
  have e1:wrap .u64 ((n:Int).tdiv 10)=((n / 10:Nat):Int):=by
   rw [Ct (by omega),Z0l (by omega)];omega
  have e2:(n:Int).tmod 10=((n % 10:Nat):Int):=by
   rw [Int.tmod_eq_emod_of_nonneg (by omega)];omega
  rw [e1,e2];refine TotP.bind (ih (n / 10) (by omega) (by omega)) (fun v hv=>?_)
  have hd:n % 10<10:=by omega
  generalize n % 10=d at hd
  have:d=0∨d=1∨d=2∨d=3∨d=4∨d=5∨d=6∨d=7∨d=8∨d=9:=by omega
  rcases this with rfl | rfl | rfl | rfl | rfl | rfl | rfl | rfl | rfl | rfl <;>
   exact TotP.chk rfl (TotP.chk rfl (TotP.chk rfl (TotP.chk (by rw [Lu];show v.length+1≤_;omega) (.ret (by rw [Lq];show v.length+1≤_;omega)))))
theorem Qpm (q:Int) (h : -1≤q∧q≤100000):TotP (fun N=>Z7 N q) (fun s=>s.length≤200000):=by
 unfold Z7;rw [Ql];refine TotP.cond (fun g=>?_) (fun g=>?_)
 ·have:q = -1:=by have:=Aa g;omega
  subst this;refine TotP.bind (Qey 1 (by omega)) (fun v hv=>TotP.chk (by rw [Lu,Ni];omega) (.ret (by rw [Lq,Ni];omega)))
 have:q=((q.toNat:Nat):Int):=by have:=Ac g;omega
 rw [Z0l (by omega),this];exact TotP.bind (Qey q.toNat (by omega)) (fun v hv => .ret (by omega))
def Qh6 (p:Int):List UInt8:=if p=1 then [109,113,116,116,51] else if p=2 then [109,113,116,116,53] else if p=3 then [115,110] else [97,109,113,112]
def Qnx (vq tp vl:List UInt8) (r:Bool):List UInt8:=cond r ([112,117,98,108,105,115,104,32,113]++vq ++ [32]++tp ++ [32]++vl ++ [32,114,101,116,97,105,110]) ([112,117,98,108,105,115,104,32,113]++vq ++ [32]++tp ++ [32]++vl)
theorem Qlr {e:Qa} {vq vl:List UInt8} (k:e.Kind=1) (p:e.Proto=1∨e.Proto=2∨e.Proto=3∨e.Proto=4) (ht:e.Topic.length≤2000) (hq:Tot (fun N=>Z7 N e.QoS) vq) (hl:Tot (fun N=>Z7 N (e.Payload.length:Int)) vl)
  (lq:vq.length≤200000) (ll:vl.length≤200000):Tot (fun N=>Y3 N e) (Qh6 e.Proto++32::Qnx vq e.Topic vl e.Retain):=by
 refine TotP.tot ?_;unfold Y3
 have hidx:idx ([[109,113,116,116,51],[109,113,116,116,53],[115,110],[97,109,113,112]]:List (List UInt8)) (wrap .i64 (e.Proto - 1))=some (Qh6 e.Proto):=by
  rcases p with p | p | p | p<;>rw [p]<;>rfl
 have hpl:(Qh6 e.Proto).length≤5:=by rcases p with p | p | p | p<;>rw [p]<;>decide
 rw [Us,Vd,X4];refine TotP.cond (fun _=>?_) (fun g=>absurd (Ac g) (by omega));refine TotP.cond (fun _=>?_) (fun g=>absurd (Ac g) (by omega));refine TotP.idx hidx ?_;generalize Qh6 e.Proto=y at hpl;refine TotP.cond (fun g=>absurd k (Aa g)) (fun _=>?_);refine TotP.chk (by rw [Lu];simp only [Lq,Ly,Mg];omega) ?_;refine TotP.bindE hq ?_;refine TotP.chk (by rw [Lu];simp only [Lq,Ly,Mg];omega) ?_;refine TotP.chk (by rw [Lu];simp only [Lq,Ly,Mg];omega) ?_;refine TotP.chk (by rw [Lu];simp only [Lq,Ly,Mg];omega) ?_;refine TotP.chk (by rw [Lu];simp only [Lq,Ly,Mg];omega) ?_;refine TotP.bindE hl ?_;refine TotP.chk (by rw [Lu];simp only [Lq,Ly,Mg];omega) ?_;refine TotP.cond (fun g=>?_) (fun g=>?_)
 ·refine TotP.chk (by rw [Lu];simp only [Lq,Ly,Mg];omega) (.ret ?_);rw [g];unfold Qnx;simp
 refine .ret ?_;rw [g];unfold Qnx;simp
theorem Qhs (p rest:List UInt8) (hp:∀ b∈p,b≠32) (hl:p.length+rest.length≤1000000):Tot (fun N=>Zl N (p++32::rest)) (32::rest):=by
 refine TotP.tot ?_
 have hlen:(p++32::rest).length=p.length+rest.length+1:=by simp;omega
 unfold Zl;refine Q35 (L:=fun N n i=>Y9 N (p++32::rest) n i) p.length (fun _=>True) (fun i hi _=>?_) (fun _=>?_) trivial
 ·show Stp _ _ _ (fun N n=>cond (Q5 .lss (i:Int) ((p++32::rest).length:Int)) _ _);rw [Ql];refine Stp.cond (fun _=>?_) (fun h=>by have:=Ac h;omega);refine Stp.idx (Qr (by omega)) ?_;rw [List.getElem_append_left hi,Ym];refine Stp.cond (fun h=>?_) (fun _=>?_)
  ·have:=Aa h;exact absurd (De.1 (show (p[i]).toNat=(32:UInt8).toNat by have e:(32:UInt8).toNat=32:=rfl;omega)) (hp _ (Mi hi))
  rw [w64 _ (by omega)];exact Stp.go (L:=fun N n i=>Y9 N (p++32::rest) n i) _ ⟨by omega,trivial⟩
 show Stp _ _ _ (fun N n=>cond (Q5 .lss (p.length:Int) ((p++32::rest).length:Int)) _ _);rw [Ql];refine Stp.cond (fun _=>?_) (fun h=>by have:=Ac h;omega);refine Stp.idx (Qr (by omega)) ?_;rw [List.getElem_append_right (Lj _),Ym];refine Stp.cond (fun _=>?_) (fun h=>by simp at h);refine Stp.chk (Ad (by omega)) ?_;refine Stp.chk (by simp) ?_;refine Stp.ret ?_;rw [Ca,Lx,Bl]
theorem Q8t {p:Int} (h:p=1∨p=2∨p=3∨p=4):(∀ b∈Qh6 p,b≠32)∧(Qh6 p).length≤5:=by
 rcases h with rfl | rfl | rfl | rfl<;>decide
theorem Qqg {p q:Int} (h:p=1∨p=2∨p=3∨p=4) (h':q=1∨q=2∨q=3∨q=4) (e:Qh6 p=Qh6 q):p=q:=by
 rcases h with rfl | rfl | rfl | rfl<;>rcases h' with rfl | rfl | rfl | rfl<;>first | rfl | (exact absurd e (by decide))
theorem Qpb {vq tp vl:List UInt8} {r:Bool} (lq:vq.length≤200000) (ll:vl.length≤200000) (ht:tp.length≤2000):(Qnx vq tp vl r).length≤900000:=by
 unfold Qnx;cases r<;>simp only [Ai,Ah,Lq,Ly,Mg]<;>omega
open Classical in
theorem Qqa {e:Qa} {v p:Int} (h0:Q51 e v=0) (hp:pOk p) (h3:p≠3) (hq:0≤e.QoS):Q51 (there p e (e.Dup&&decide (e.QoS>0)) 0) 0=0:=by
 obtain ⟨⟨hn,hP⟩,_,_,_⟩:=Ql2 h0
 have hP':PubT (there p e (e.Dup&&decide (e.QoS>0)) 0) (cq (there p e (e.Dup&&decide (e.QoS>0)) 0)) (Qhb (there p e (e.Dup&&decide (e.QoS>0)) 0)) (Q2h (there p e (e.Dup&&decide (e.QoS>0)) 0)):=by
  refine ⟨hp,rfl,?_,hP.id,hP.cid,fun d=>?_,fun h=>absurd h (Nat.lt_irrefl 0),fun h=>absurd h h3,fun _=>⟨rfl,rfl⟩,⟨Int.le_refl 0,by show (0:Int)≤65535;decide⟩,fun h=>absurd rfl h,?_⟩
  ·rcases hP.qos with h | h
   ·exact .inl h
   omega
  ·refine .inl ?_;have d:(e.Dup&&decide (e.QoS>0))=true:=d;have hd:=Aa (Bool.and_eq_true_iff.1 d).2
   have:e.QoS=1∨e.QoS=2:=by rcases hP.qos with h | h<;>omega
   show cond (decide (e.QoS=1)) true (decide (e.QoS=2))=true
   rcases this with h | h<;>rw [h]<;>rfl
  unfold Q2h;exact Ad ⟨rfl,rfl,rfl⟩
 unfold Q51;rw [Ae (Ao ⟨hp,rfl⟩),Ae (show ¬ Q1e (there p e (e.Dup&&decide (e.QoS>0)) 0).Topic=false by show ¬ Q1e e.Topic=false;rw [hn];decide),Ae (Ao hP'),Ae (Ao rfl)]
theorem Qk5:Tot (fun N=>Xp N 3 []) 0:=by
 first | exact .of fun N=>rfl | exact ⟨50,fun N hN=>by obtain ⟨M,rfl⟩:∃ M,N=M+50:=⟨N - 50,by omega⟩;kernel_rfl⟩
theorem LE.oks6 {e:Qa} (h:LE e):Z09 e:=⟨by have:=h.props.len;have:=ml2;omega,by have:=h.dg.hops;have:=ml2;have h2:e.Hops.length≤30:=h.dg.hops;omega,h.pk.l,h.szs⟩
theorem Z00:Z09 zEk:=⟨Mj _,Mj _,okpk_z.l,(by show Q0.szs []<_;decide)⟩
theorem Z0g {e:Qa} (h:Qbn e):OkE e:=⟨h.Topic_ok,h.Props_ok.1,h.Packet_ok.Filters_ok.1,h.Packet_ok.Props_ok.1,h.Packet_ok.Will_ok.Props_ok.1⟩
def Qro (client:List UInt8) (e:Qa) (proto:Int) (N:Nat) (R:Reg):Option Bool:=
 (Q0f N R client e proto).bind fun v143=>
  cond (Q5 .neq v143.1.2 0)
  ((Q09 N v143.2 client e proto).bind fun v146=>
  cond (!v146.1)
  ((Zr N v143.1.1 zEk).bind fun v149=>
  some v149)
  (some false))
  (cond (Q5 .eql proto e.Proto)
  ((Zr N v143.1.1 e).bind fun v152=>
  some v152)
  ((Y3 N e).bind fun v154=>
  (Y3 N v143.1.1).bind fun v156=>
  cond (Q5 .eql v143.1.1.Proto proto)
  (cond (Q0k .neq v154 v156)
  ((Zl N v154).bind fun v160=>
  (Zl N v156).bind fun v162=>
  cond (Q0k .eql v160 v162)
  ((Zt N v143.1.1).bind fun v165=>
  some (Q5 .eql v165 0))
  (some false))
  (some false))
  (some false)))
theorem Qo9 (client:List UInt8) {e:Qa} (proto:Int) (R:Reg) (h:LE e):TotP (fun N=>Qro client e proto N R) (· = true):=by
 obtain ⟨v,_,hv⟩:=Qnd 3 e.Props h.props;obtain ⟨r,⟨hR,hr⟩,hto⟩:=Qsr R client proto h hv;have hcan:=Qrw R client proto hto hR;unfold Qro;refine TotP.bindE hto ?_;obtain ⟨⟨x,err⟩,R'⟩:=r
 simp only at hR hr hcan ⊢
 subst hR;rw [X4,Ym];have same:∀ a:Qa,Z09 a→TotP (fun N=>(Zr N a a).bind fun v=>some v) (· = true):=fun a ha=>TotP.bind (Qgn a a ha) (fun v hv => .ret (hv.2 rfl))
 have no:err≠0→x=zEk→TotP (fun N=>(Q09 N R' client e proto).bind fun v146=>cond (!v146.1) ((Zr N x zEk).bind fun v149=>some v149) (some false)) (· = true):=fun h1 h2=>by
  refine TotP.bindE hcan ?_;rw [Ab h1];subst h2;exact same zEk Z00
 have other:∀ (p:Int) (d:Bool) (ty:Int),pOk p→Q51 e v=0→p≠e.Proto→proto=p→x=there p e d ty→Q51 (there p e d ty) 0=0→TotP (fun N=>cond (decide (proto=e.Proto)) ((Zr N x e).bind fun v152=>some v152)
   ((Y3 N e).bind fun v154=>(Y3 N x).bind fun v156=>cond (Q5 .eql x.Proto proto) (cond (Q0k .neq v154 v156) ((Zl N v154).bind fun v160=>(Zl N v156).bind fun v162=>
    cond (Q0k .eql v160 v162) ((Zt N x).bind fun v165=>some (Q5 .eql v165 0)) (some false)) (some false)) (some false))) (· = true):=fun p d ty hp h0 hne hpr hx hpub=>by
  subst hpr;subst hx;obtain ⟨⟨_,hP⟩,_,_,hk⟩:=Ql2 h0;refine TotP.cond (fun g=>absurd (Aa g) hne) (fun _=>?_);have hpl:=h.payload;have htl:=h.topic;obtain ⟨vq,lq,hq⟩:=Qpm e.QoS (by rcases hP.qos with q | q<;>omega);obtain ⟨vl,ll,hl⟩:=Qpm (e.Payload.length:Int) (by omega);have hlen:=Qpb (r:=e.Retain) lq ll htl;obtain ⟨b1,l1⟩:=Q8t hP.known;obtain ⟨b2,l2⟩:=Q8t hp;refine TotP.bindE (Qlr hk hP.known htl hq hl lq ll) ?_;refine TotP.bindE (Qlr (e:=there proto e d ty) rfl hp htl hq hl lq ll) ?_;rw [Ym];refine TotP.cond (fun _=>?_) (fun g=>absurd rfl (Ac g));rw [Qmp];refine TotP.cond (fun _=>?_) (fun g=>?_)
  ·refine TotP.bindE (Qhs _ _ b1 (by omega)) ?_;refine TotP.bindE (Qhs _ _ b2 (by show (Qh6 proto).length+_≤_;have:(Qnx vq (there proto e d ty).Topic vl (there proto e d ty).Retain).length≤900000:=hlen;omega)) ?_;rw [Qbi];refine TotP.cond (fun _=>?_) (fun g=>absurd rfl (Ac g));refine TotP.bindE (Qxk (h.there proto d ty) Qk5) (.ret ?_);rw [hpub];rfl
  exfalso;have g:=Ac g;exact hne (Qqg hp hP.known (List.append_cancel_right (Decidable.byContradiction fun hh=>g (fun e2=>hh e2.symm))))
 cases hr with
 | arg _=>exact TotP.cond (fun _=>no (by decide) rfl) (fun g=>absurd (Ac g) (by decide))
 | bad _ h0=>exact TotP.cond (fun _=>no h0 rfl) (fun g=>absurd h0 (Ac g))
 | loss _ _ _ _=>exact TotP.cond (fun _=>no (by decide) rfl) (fun g=>absurd (Ac g) (by decide))
 | own hp h0 he=>
  refine TotP.cond (fun g=>absurd rfl (Aa g)) (fun _=>?_);refine TotP.cond (fun _=>same _ h.oks6) (fun g=>absurd he (Ac g))
 | plain hp h0 he hpr h3 hq=>
  refine TotP.cond (fun g=>absurd rfl (Aa g)) (fun _=>?_);exact other _ _ _ hp h0 he rfl rfl (Qqa h0 hp h3 hq)
 | sn hp h0 he hpr ty hpub=>
  subst hp;refine TotP.cond (fun g=>absurd rfl (Aa g)) (fun _=>?_);exact other 3 _ _ (.inr (.inr (.inl rfl))) h0 he rfl rfl hpub
theorem Qw4 (t:List Qd) (client:List UInt8) (e:Qa) (proto:Int) (ht:t.length≤maxLen) (he:Qbn e):∃ N,Xh N t client e proto=some true:=by
 have hm:200≤maxLen:=by unfold maxLen;decide
 have key:TotP (fun N=>Xh N t client e proto) (· = true):=by
  unfold Xh;refine TotP.bindE (v:=true) (.of fun _=>rfl) ?_;refine TotP.cond (fun h=>by cases h) (fun _=>?_);refine TotP.bind (Qvd t ht) (fun v hv=>?_);refine TotP.cond (fun _ => .ret rfl) (fun g=>?_);obtain ⟨h1,h2⟩:=hv (by simpa using g);refine TotP.cond (fun _ => .ret rfl) (fun _=>?_);refine TotP.bind (Qso e (Z0g he) he.Frame_ok.Values_ok.2) (fun v hv=>?_);refine TotP.cond (fun _ => .ret rfl) (fun g=>?_);have hle:=hv (by simpa using g);refine Qoa (L:=fun N n i c' R=>Zn N t client e proto n i c' R) (K:=fun N R=>Qro client e proto N R) h1 (fun y hy=>Mq (h2 y hy) hm) (fun N n i c' R=>?_) (Qo9 client proto _ hle);show cond (Q5 .lss i ((Q8 Qd.cells t).length:Int)) _ _=_;rw [Q6];rfl
 obtain ⟨N,hN⟩:=key.tot;exact ⟨N,hN N (Lj _)⟩
end
abbrev Aw := @TotP.ret
abbrev Ax := @TotP.tot
abbrev Ay := @TotP.bind
abbrev Az := @TotP.bindE
abbrev AA := @TotP.cond
abbrev AB := @TotP.chk
abbrev AC := @Stp.fin
abbrev AD := @Stp.ret
abbrev AE := @Stp.go
abbrev AF := @Stp.bind
abbrev AG := @Stp.idx
abbrev AH := @Stp.cond
abbrev AI := @Stp.chk
end Go.Av
