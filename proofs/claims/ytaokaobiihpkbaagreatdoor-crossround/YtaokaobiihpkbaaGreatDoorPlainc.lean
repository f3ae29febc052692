/- Part of the proof of CrossRound: for every input the law returns true; no condition. -/
import Derived.Test.YtaokaobiihpkbaaGreatDoorAvOwn
import Derived.Test.YtaokaobiihpkbaaGreatDoorRound
import Derived.Test.YtaokaobiihpkbaaGreatDoorLiftF3
import Derived.Test.YtaokaobiihpkbaaGreatDoorPlainb
import Derived.Test.YtaokaobiihpkbaaGreatDoorPlain
import Derived.Test.YtaokaobiihpkbaaGreatDoorRegS
set_option linter.all false
open Go.IntKind (wrap)
namespace Go.Av
noncomputable section
section
variable {R A S T:Type}
def Tot (f:Nat→Option R) (r:R):Prop:=∃ N0,∀ N,N0≤N→f N=some r
def TotP (f:Nat→Option R) (Q:R→Prop):Prop:=∃ r,Q r∧Tot f r
theorem Tot.of {f:Nat→Option R} {r:R} (h:∀ N,f N=some r):Tot f r:=⟨0,fun N _=>h N⟩
theorem Tot.ret (r:R):Tot (fun _=>some r) r := .of fun _=>rfl
theorem Tot.bind {f:Nat→Option A} {g:Nat→A→Option R} {v:A} {r:R} (h1:Tot f v) (h2:Tot (fun N=>g N v) r):Tot (fun N=>(f N).bind (g N)) r:=by
 obtain ⟨a,ha⟩:=h1;obtain ⟨b,hb⟩:=h2;exact ⟨max a b,fun N hN=>by show (f N).bind (g N)=_;rw [ha N (by omega)];exact hb N (by omega)⟩
theorem TotP.of {f:Nat→Option R} {r:R} {Q:R→Prop} (hq:Q r) (h:Tot f r):TotP f Q:=⟨r,hq,h⟩
theorem TotP.ret {r:R} {Q:R→Prop} (h:Q r):TotP (fun _=>some r) Q:=⟨r,h,.ret r⟩
theorem TotP.mono {f:Nat→Option R} {Q Q':R→Prop} (h:TotP f Q) (hq:∀ r,Q r→Q' r):TotP f Q':=by
 obtain ⟨r,h1,h2⟩:=h;exact ⟨r,hq r h1,h2⟩
theorem TotP.tot {f:Nat→Option R} {r:R} (h:TotP f (· = r)):Tot f r:=by obtain ⟨x,rfl,h2⟩:=h;exact h2
theorem TotP.bind {f:Nat→Option A} {g:Nat→A→Option R} {V:A→Prop} {Q:R→Prop} (h1:TotP f V) (h2:∀ v,V v→TotP (fun N=>g N v) Q):TotP (fun N=>(f N).bind (g N)) Q:=by
 obtain ⟨v,hv,t⟩:=h1;obtain ⟨r,hr,u⟩:=h2 v hv;exact ⟨r,hr,t.bind u⟩
theorem TotP.bindE {f:Nat→Option A} {g:Nat→A→Option R} {v:A} {Q:R→Prop} (h1:Tot f v) (h2:TotP (fun N=>g N v) Q):TotP (fun N=>(f N).bind (g N)) Q:=by
 obtain ⟨r,hr,u⟩:=h2;exact ⟨r,hr,h1.bind u⟩
theorem TotP.cond {b:Bool} {f g:Nat→Option R} {Q:R→Prop} (h1:b=true→TotP f Q) (h2:b=false→TotP g Q):TotP (fun N=>cond b (f N) (g N)) Q:=by
 cases b
 ·exact h2 rfl
 exact h1 rfl
theorem TotP.chk {b:Bool} {f:Nat→Option R} {Q:R→Prop} (hb:b=true) (h:TotP f Q):TotP (fun N=>_root_.cond b (f N) none) Q:=by subst hb;exact h
theorem TotP.idx {l:List T} {i:Int} {y:T} {g:Nat→T→Option R} {Q:R→Prop} (h:idx l i=some y) (h2:TotP (fun N=>g N y) Q):TotP (fun N=>(Go.Av.idx l i).bind (g N)) Q:=
 .bindE (.of fun _=>h) h2
theorem TotP.optC {o:Option T} {f:Nat→T→Option R} {z:Nat→Option R} {Q:R→Prop} (h1:∀ v,o=some v→TotP (fun N=>f N v) Q) (h2:o=none→TotP z Q):TotP (fun N=>Go.Av.optC o (f N) (z N)) Q:=by
 cases o with
 | none=>exact h2 rfl
 | some v=>exact h1 v rfl
def Stp (L:Nat→Nat→S→Option R) (P:S→Prop) (Q:R→Prop) (f:Nat→Nat→Option R):Prop:=
 (∃ r N0,Q r∧∀ N n,N0≤N→f N n=some r)∨∃ s N0,P s∧∀ N n,N0≤N→f N n=L N n s
section
variable {L:Nat→Nat→S→Option R} {P:S→Prop} {Q:R→Prop}
theorem Stp.fin {f:Nat→Option R} (h:TotP f Q):Stp L P Q (fun N _=>f N):=by
 obtain ⟨r,h1,N0,h2⟩:=h;exact .inl ⟨r,N0,h1,fun N _ hN=>h2 N hN⟩
theorem Stp.ret {r:R} (h:Q r):Stp L P Q (fun _ _=>some r) := .inl ⟨r,0,h,fun _ _ _=>rfl⟩
theorem Stp.go (s:S) (h:P s):Stp L P Q (fun N n=>L N n s) := .inr ⟨s,0,h,fun _ _ _=>rfl⟩
theorem Stp.bind {f:Nat→Option A} {g:Nat→Nat→A→Option R} {V:A→Prop} (h1:TotP f V) (h2:∀ v,V v→Stp L P Q (fun N n=>g N n v)):Stp L P Q (fun N n=>(f N).bind (g N n)):=by
 obtain ⟨v,hv,a,ha⟩:=h1
 rcases h2 v hv with ⟨r,b,hr,hb⟩ | ⟨s,b,hs,hb⟩
 ·exact .inl ⟨r,max a b,hr,fun N n hN=>by show (f N).bind _=_;rw [ha N (by omega)];exact hb N n (by omega)⟩
 exact .inr ⟨s,max a b,hs,fun N n hN=>by show (f N).bind _=_;rw [ha N (by omega)];exact hb N n (by omega)⟩
theorem Stp.idx {l:List T} {i:Int} {y:T} {g:Nat→Nat→T→Option R} (h:idx l i=some y) (h2:Stp L P Q (fun N n=>g N n y)):Stp L P Q (fun N n=>(Go.Av.idx l i).bind (g N n)):=
 .bind (f:=fun _=>Go.Av.idx l i) (V:=(· = y)) ⟨y,rfl,.of fun _=>h⟩ (fun v hv=>by subst hv;exact h2)
theorem Stp.cond {b:Bool} {f g:Nat→Nat→Option R} (h1:b=true→Stp L P Q f) (h2:b=false→Stp L P Q g):Stp L P Q (fun N n=>cond b (f N n) (g N n)):=by
 cases b
 ·exact h2 rfl
 exact h1 rfl
theorem Stp.chk {b:Bool} {f:Nat→Nat→Option R} (hb:b=true) (h:Stp L P Q f):Stp L P Q (fun N n=>_root_.cond b (f N n) none):=by subst hb;exact h
theorem Q6n (inv:S→Prop) (μ:S→Nat) (Z5:∀ s,inv s→Stp L (fun s'=>inv s' ∧ μ s' < μ s) Q (fun N n=>L N (n+1) s)) (s:S) (h:inv s):TotP (fun N=>L N N s) Q:=by
 have key:∀ (m:Nat) (s:S),μ s<m→inv s→∃ r N0,Q r∧∀ N n,N0≤N→N0≤n→L N n s=some r:=by
  intro m
  induction m with
  | zero=>intro s h;omega
  | succ m ih=>
   intro s hm hi
   rcases Z5 s hi with ⟨r,N0,hr,hL⟩ | ⟨s',N0,⟨h1,h2⟩,hL⟩
   ·refine ⟨r,N0+1,hr,fun N n h1 h2=>?_⟩;obtain ⟨k,rfl⟩:∃ k,n=k+1:=⟨n - 1,by omega⟩;exact hL N k (by omega)
   obtain ⟨r,M0,hr,hM⟩:=ih s' (by omega) h1;refine ⟨r,max N0 M0+1,hr,fun N n h1 h2=>?_⟩;obtain ⟨k,rfl⟩:∃ k,n=k+1:=⟨n - 1,by omega⟩;exact (hL N k (by omega)).trans (hM N k (by omega) (by omega))
 obtain ⟨r,N0,hr,hL⟩:=key (μ s+1) s (by omega) h;exact ⟨r,hr,N0,fun N hN=>hL N N hN hN⟩
end
theorem Q5o {L:Nat→Nat→Int→Option R} {Q:R→Prop} (m:Nat) (J:Nat→Prop) (Z5:∀ i,i<m→J i→Stp L (fun s=>s=((i+1:Nat):Int)∧J (i+1)) Q (fun N n=>L N (n+1) (i:Int)))
  (fin:J m→Stp L (fun _=>False) Q (fun N n=>L N (n+1) (m:Int))) (h0:J 0):TotP (fun N=>L N N 0) Q:=by
 refine Q6n (S:=Int) (fun s=>∃ i:Nat,s=(i:Int)∧i≤m∧J i) (fun s=>m - s.toNat) ?_ 0 ⟨0,rfl,Mg _,h0⟩
 rintro s ⟨i,rfl,hi,hj⟩
 by_cases h:i<m
 ·rcases Z5 i h hj with ⟨r,N0,hr,hL⟩ | ⟨s',N0,⟨rfl,h2⟩,hL⟩
  ·exact .inl ⟨r,N0,hr,hL⟩
  exact .inr ⟨_,N0,⟨⟨i+1,rfl,h,h2⟩,by simp only [Lw];omega⟩,hL⟩
 have:i=m:=by omega
 subst this
 rcases fin hj with ⟨r,N0,hr,hL⟩ | ⟨s',N0,h2,hL⟩
 ·exact .inl ⟨r,N0,hr,hL⟩
 exact h2.elim
end
theorem Qq (x y:Int):Q5 .lss x y=decide (x<y):=rfl
theorem G9 (x y:Int):Q5 .leq x y=decide (x≤y):=rfl
theorem W9 (x y:Int):Q5 .gtr x y=decide (x>y):=rfl
theorem Jh (x y:Int):Q5 .geq x y=decide (x≥y):=rfl
theorem Yk (x y:Int):Q5 .eql x y=decide (x=y):=by unfold Q5;by_cases h:x=y<;>simp [h]
theorem Y8 (x y:Int):Q5 .neq x y=decide (x≠y):=by unfold Q5;by_cases h:x=y<;>simp [h]
theorem w64 (x:Int) (h : -9223372036854775808≤x∧x≤9223372036854775807):wrap .i64 x=x:=IntWalk.i64_in x h
theorem Zg {T:Type} {l:List T} {i:Nat} (h:i<l.length):idx l (i:Int)=some l[i]:=Lc h
theorem Q65:maxLen≤9223372036854775807:=by unfold maxLen;decide
end
end Go.Av
namespace Go.Av
noncomputable section
def at8 (s:List UInt8) (i:Nat):Nat:=(s.getD i 0).toNat
theorem Q70 (s:List UInt8) (i:Nat):at8 s i<256:=Di _
theorem Q7f {s:List UInt8} {i:Nat} (h:i<s.length):at8 s i=(s[i]).toNat:=by simp [at8,h]
def goes (s:List UInt8) (i:Nat):Prop:=i<s.length∧128≤at8 s i∧at8 s i<192
instance (s:List UInt8) (i:Nat):Decidable (goes s i):=inferInstanceAs (Decidable (_∧_))
def Q90 (c:Nat):Prop:=¬ (55296≤c∧c≤57343)∧c≤1114111
instance (c:Nat):Decidable (Q90 c):=inferInstanceAs (Decidable (_∧_))
def Q4z (s:List UInt8) (i:Nat):Nat×Nat:=
 if at8 s i<128 then (at8 s i,1)
 else if 192≤at8 s i∧at8 s i<224∧goes s (i+1)∧128≤64 * (at8 s i - 192)+(at8 s (i+1) - 128) then (64 * (at8 s i - 192)+(at8 s (i+1) - 128),2)
 else if 224≤at8 s i∧at8 s i<240∧goes s (i+1)∧goes s (i+2)∧2048≤64 * (64 * (at8 s i - 224)+(at8 s (i+1) - 128))+(at8 s (i+2) - 128)∧Q90 (64 * (64 * (at8 s i - 224)+(at8 s (i+1) - 128))+(at8 s (i+2) - 128)) then
  (64 * (64 * (at8 s i - 224)+(at8 s (i+1) - 128))+(at8 s (i+2) - 128),3)
 else if 240≤at8 s i∧at8 s i<248∧goes s (i+1)∧goes s (i+2)∧goes s (i+3)∧65536≤64 * (64 * (64 * (at8 s i - 240)+(at8 s (i+1) - 128))+(at8 s (i+2) - 128))+(at8 s (i+3) - 128) ∧
   Q90 (64 * (64 * (64 * (at8 s i - 240)+(at8 s (i+1) - 128))+(at8 s (i+2) - 128))+(at8 s (i+3) - 128)) then
  (64 * (64 * (64 * (at8 s i - 240)+(at8 s (i+1) - 128))+(at8 s (i+2) - 128))+(at8 s (i+3) - 128),4)
 else (65533,1)
theorem Qhh (c:Nat):Utf8.valid (c:Int)=true↔Q90 c:=by
 unfold Utf8.valid Q90;simp only [Lb,Nr,Np,decide_eq_true_eq,decide_eq_false_iff_not];omega
theorem Qrm (a b c d:Nat) (G1 G2 G3:Prop) [Decidable G1] [Decidable G2] [Decidable G3] (h0:a<256) (q1:G1→128≤b∧b<192) (q2:G2→128≤c∧c<192) (q3:G3→128≤d∧d<192) :
  (if a<128 then (a,1)
   else if (a / 32 == 6&&decide G1)=true then (if a % 32 * 64+b % 64≥128 then (a % 32 * 64+b % 64,2) else (65533,1))
   else if (a / 16 == 14&&decide G1&&decide G2)=true then (if (decide (a % 16 * 4096+b % 64 * 64+c % 64≥2048)&&Utf8.valid ((a % 16 * 4096+b % 64 * 64+c % 64:Nat):Int))=true then (a % 16 * 4096+b % 64 * 64+c % 64,3) else (65533,1))
   else if (a / 8 == 30&&decide G1&&decide G2&&decide G3)=true then (if (decide (a % 8 * 262144+b % 64 * 4096+c % 64 * 64+d % 64≥65536)&&Utf8.valid ((a % 8 * 262144+b % 64 * 4096+c % 64 * 64+d % 64:Nat):Int))=true then (a % 8 * 262144+b % 64 * 4096+c % 64 * 64+d % 64,4) else (65533,1))
   else (65533,1)) =
  (if a<128 then (a,1)
   else if 192≤a∧a<224∧G1∧128≤64 * (a - 192)+(b - 128) then (64 * (a - 192)+(b - 128),2)
   else if 224≤a∧a<240∧G1∧G2∧2048≤64 * (64 * (a - 224)+(b - 128))+(c - 128)∧Q90 (64 * (64 * (a - 224)+(b - 128))+(c - 128)) then (64 * (64 * (a - 224)+(b - 128))+(c - 128),3)
   else if 240≤a∧a<248∧G1∧G2∧G3∧65536≤64 * (64 * (64 * (a - 240)+(b - 128))+(c - 128))+(d - 128)∧Q90 (64 * (64 * (64 * (a - 240)+(b - 128))+(c - 128))+(d - 128)) then
    (64 * (64 * (64 * (a - 240)+(b - 128))+(c - 128))+(d - 128),4)
   else (65533,1)):=by
 simp only [Lb,decide_eq_true_eq,beq_iff_eq,Qhh,ge_iff_le];have e2:∀ x,Q90 x=(¬ (55296≤x∧x≤57343)∧x≤1114111):=fun x=>rfl
 by_cases c1:a<128
 ·rw [if_pos c1,if_pos c1]
 rw [if_neg c1,if_neg c1]
 by_cases c2:a<192
 ·rw [if_neg (by omega),if_neg (by omega),if_neg (by omega),if_neg (by omega),if_neg (by omega),if_neg (by omega)]
 by_cases c3:a<224
 ·by_cases g1:G1
  ·have:=q1 g1
   have e:a % 32 * 64+b % 64=64 * (a - 192)+(b - 128):=by omega
   rw [if_pos ⟨by omega,g1⟩,e]
   by_cases c4:128≤64 * (a - 192)+(b - 128)
   ·rw [if_pos c4,if_pos ⟨by omega,c3,g1,c4⟩]
   rw [if_neg c4,if_neg (fun h=>c4 h.2.2.2),if_neg (by omega),if_neg (by omega)]
  rw [if_neg (fun h=>g1 h.2),if_neg (by omega),if_neg (by omega),if_neg (fun h=>g1 h.2.2.1),if_neg (by omega),if_neg (by omega)]
 rw [if_neg (by omega),if_neg (c:=192≤a∧_) (by omega)]
 by_cases c5:a<240
 ·by_cases g:G1∧G2
  ·have:=q1 g.1;have:=q2 g.2
   have e:a % 16 * 4096+b % 64 * 64+c % 64=64 * (64 * (a - 224)+(b - 128))+(c - 128):=by omega
   rw [if_pos ⟨⟨by omega,g.1⟩,g.2⟩,e]
   by_cases c4:2048≤64 * (64 * (a - 224)+(b - 128))+(c - 128)∧Q90 (64 * (64 * (a - 224)+(b - 128))+(c - 128))
   ·rw [if_pos c4,if_pos ⟨by omega,c5,g.1,g.2,c4⟩]
   rw [if_neg c4,if_neg (fun h=>c4 h.2.2.2.2),if_neg (by omega)]
  rw [if_neg (fun h=>g ⟨h.1.2,h.2⟩),if_neg (by omega),if_neg (fun h=>g ⟨h.2.2.1,h.2.2.2.1⟩),if_neg (by omega)]
 rw [if_neg (by omega),if_neg (c:=224≤a∧_) (by omega)]
 by_cases c6:a<248
 ·by_cases g:G1∧G2∧G3
  ·have:=q1 g.1;have:=q2 g.2.1;have:=q3 g.2.2
   have e:a % 8 * 262144+b % 64 * 4096+c % 64 * 64+d % 64=64 * (64 * (64 * (a - 240)+(b - 128))+(c - 128))+(d - 128):=by omega
   rw [if_pos ⟨⟨⟨by omega,g.1⟩,g.2.1⟩,g.2.2⟩,e]
   by_cases c4:65536≤64 * (64 * (64 * (a - 240)+(b - 128))+(c - 128))+(d - 128)∧Q90 (64 * (64 * (64 * (a - 240)+(b - 128))+(c - 128))+(d - 128))
   ·rw [if_pos c4,if_pos ⟨by omega,c6,g.1,g.2.1,g.2.2,c4⟩]
   rw [if_neg c4,if_neg (fun h=>c4 h.2.2.2.2.2)]
  rw [if_neg (fun h=>g ⟨h.1.1.2,h.1.2,h.2⟩),if_neg (fun h=>g ⟨h.2.2.1,h.2.2.2.1,h.2.2.2.2.1⟩)]
 rw [if_neg (by omega),if_neg (by omega)]
theorem Qy9 (s:List UInt8) (j:Nat):(decide (j<s.length)&&(at8 s j / 64 == 2))=decide (goes s j):=by
 have hk:=Q70 s j
 by_cases hg:goes s j
 ·have h4:at8 s j / 64=2:=by have:=hg.2;omega
  simp [hg,hg.1,h4]
 simp only [hg,decide_false,Ch,decide_eq_false_iff_not]
 by_cases hl:j<s.length
 ·right;simp only [beq_eq_false_iff_ne,ne_eq]
  intro h4;exact hg ⟨hl,by omega,by omega⟩
 exact .inl hl
theorem Qkz (s:List UInt8) (i:Nat):Q9u s i=Q4z s i:=by
 have u:∀ j,(s.getD j 0).toNat=at8 s j:=fun _=>rfl;have:=Qrm (at8 s i) (at8 s (i+1)) (at8 s (i+2)) (at8 s (i+3)) (goes s (i+1)) (goes s (i+2)) (goes s (i+3)) (Q70 _ _) (fun h=>h.2) (fun h=>h.2) (fun h=>h.2);unfold Q4z;rw [← this];unfold Q9u;simp only [Ns,u,Qy9];rfl
theorem Qle (s:List UInt8) (i:Nat) (h:i<s.length):1≤(Q4z s i).2∧i+(Q4z s i).2≤s.length∧((Q4z s i).1<128↔at8 s i<128)∧(at8 s i<128→(Q4z s i).1=at8 s i∧(Q4z s i).2=1) ∧
  (∀ k,1≤k→k<(Q4z s i).2→128≤at8 s (i+k))∧Q90 (Q4z s i).1:=by
 have h0:=Q70 s i;unfold Q4z;split
 ·refine ⟨by simp,by simp;omega,by simp,fun _=>⟨rfl,rfl⟩,fun k h1 h2=>by simp at h2;omega,by unfold Q90;simp;omega⟩
 split
 ·rename_i h1 h2;obtain ⟨_,_,g1,h3⟩:=h2;refine ⟨by simp,by simp;have:=g1.1;omega,by simp;omega,fun h=>by omega,fun k h4 h5=>?_,by unfold Q90;simp only;have:=g1.2;omega⟩
  have:k=1:=by simp at h5;omega
  subst this;exact g1.2.1
 split
 ·rename_i h1 h2 h3;obtain ⟨_,_,g1,g2,h3,h6⟩:=h3;refine ⟨by simp,by simp;have:=g2.1;omega,by simp;omega,fun h=>by omega,fun k h4 h5=>?_,h6⟩
  have:k=1∨k=2:=by simp at h5;omega
  rcases this with rfl | rfl
  ·exact g1.2.1
  exact g2.2.1
 split
 ·rename_i h1 h2 h3 h4;obtain ⟨_,_,g1,g2,g3,h3,h6⟩:=h4;refine ⟨by simp,by simp;have:=g3.1;omega,by simp;omega,fun h=>by omega,fun k h4 h5=>?_,h6⟩
  have:k=1∨k=2∨k=3:=by simp at h5;omega
  rcases this with rfl | rfl | rfl
  ·exact g1.2.1
  ·exact g2.2.1
  exact g3.2.1
 rename_i h1 h2 h3 h4;exact ⟨by simp,by simp;omega,by simp;omega,fun h=>by omega,fun k h4 h5=>by simp at h5;omega,by unfold Q90;simp⟩
def Qne (s:List UInt8) (i:Nat):Prop:=Q4z s i=(65533,1)
instance (s:List UInt8) (i:Nat):Decidable (Qne s i):=inferInstanceAs (Decidable (_=_))
def Qih (s:List UInt8) (pos:Nat):Option Nat:=
 if h:pos<s.length then (if (Q4z s pos).1=0∨Qne s pos then some pos else Qih s (pos+(Q4z s pos).2)) else none
termination_by s.length - pos
decreasing_by have:=(Qle s pos h).1;omega
end
end Go.Av
namespace Go.Av
noncomputable section
open Go.Proofs
theorem Qvn {b:UInt8} {n:Nat} (h:b.toNat=n) (hn:n<256):b=UInt8.ofNat n:=by
 apply UInt8.toNat_inj.1;rw [h];simp [UInt8.toNat_ofNat];omega
theorem Qor {s:List UInt8} {i:Nat} (hi:i<s.length) (hc:(Q4z s i).1=65533):(3≤(s.drop i).length∧(s.drop i).take 3 = [239,191,189])↔¬ Qne s i:=by
 constructor
 ·rintro ⟨h1,h2⟩ hn
  have hl:i+2<s.length:=by simp at h1;omega
  have g:∀ k,k<3→s[i+k]? = ([239,191,189]:List UInt8)[k]? := by
   intro k hk;rw [← h2,Ma,if_pos hk,Mb]
  have a0:at8 s i=239:=by have:=g 0 (by omega);simp at this;simp [at8,List.getD_eq_getElem?_getD,this]
  have a1:at8 s (i+1)=191:=by have:=g 1 (by omega);simp at this;simp [at8,List.getD_eq_getElem?_getD,this]
  have a2:at8 s (i+2)=189:=by have:=g 2 (by omega);simp at this;simp [at8,List.getD_eq_getElem?_getD,this]
  have g1:goes s (i+1):=⟨by omega,by omega,by omega⟩;have g2:goes s (i+2):=⟨by omega,by omega,by omega⟩;unfold Qne Q4z at hn;rw [a0,a1,a2] at hn;simp [g1,g2,Q90] at hn
 intro hn;have h0:=Q70 s i;unfold Qne at hn;unfold Q4z at hn hc;split at hn
 ·rename_i h1;rw [if_pos h1] at hc;simp at hc;omega
 rename_i h1;rw [if_neg h1] at hc;split at hn
 ·rename_i h2;rw [if_pos h2] at hc;obtain ⟨_,_,g1,_⟩:=h2;have:=g1.2;simp at hc;omega
 rename_i h2;rw [if_neg h2] at hc;split at hn
 ·rename_i h3;rw [if_pos h3] at hc;obtain ⟨_,_,g1,g2,_⟩:=h3;have b1:=g1.2;have b2:=g2.2;have l2:=g2.1
  simp only at hc
  have a0:at8 s i=239:=by omega
  have a1:at8 s (i+1)=191:=by omega
  have a2:at8 s (i+2)=189:=by omega
  rw [Q7f (by omega)] at a0 a1 a2;refine ⟨by simp;omega,?_⟩;apply Mo;intro k;rw [Ma]
  by_cases hk:k<3
  ·rw [if_pos hk,Mb]
   have:k=0∨k=1∨k=2:=by omega
   rcases this with rfl | rfl | rfl
   ·rw [Ns,Lc (by omega),Qvn a0 (by omega)];rfl
   ·rw [Lc (by omega),Qvn a1 (by omega)];rfl
   rw [Lc (by omega),Qvn a2 (by omega)];rfl
  rw [if_neg hk];simp;omega
 rename_i h3;rw [if_neg h3] at hc;split at hn
 ·rename_i h4;rw [if_pos h4] at hc;obtain ⟨_,_,g1,g2,g3,h5,h6⟩:=h4
  simp only at hc
  omega
 exact absurd rfl hn
theorem Qsf (N:Nat) (s:List UInt8):Jv N s=some (decide (3≤s.length∧s.take 3 = [239,191,189])):=by
 unfold Jv;rw [Jh]
 by_cases h:3≤s.length
 ·have h1:decide ((s.length:Int)≥3)=true:=by simp;omega
  have h2:(Nat.ble 0 3&&Nat.ble 3 s.length)=true:=by simp [h]
  rw [h1,h2];simp only [cond_true,Nm,Q0m]
  congr 1
  by_cases h3:s.take 3 = [239,191,189]<;>simp [h,h3]
 have h1:decide ((s.length:Int)≥3)=false:=by simp;omega
 rw [h1];simp [h]
def Qw5 (o:Option Nat):Int:=match o with
 | some p=>p
 | none => -1
theorem Quu (s:List UInt8):Tot (fun N=>Q26 N s) (Qw5 (Qih s 0)):=by
 refine TotP.tot ?_;show TotP (fun N=>W6 N s N 0) _;refine Q6n (L:=fun N n (p:Nat)=>W6 N s n p) (fun p=>Qih s p=Qih s 0) (fun p=>s.length - p) (fun p hp=>?_) 0 rfl;show Stp _ _ _ (fun N n=>cond (Nat.blt p s.length) _ _);refine Stp.cond (fun h=>?_) (fun h=>?_)
 ·have hl:p<s.length:=by simpa [Nat.blt_eq] using h
  rw [Qkz];have hw:=Qle s p hl
  have hb:Qih s p=(if (Q4z s p).1=0∨Qne s p then some p else Qih s (p+(Q4z s p).2)):=by rw [Qih,dif_pos hl]
  rw [Yk,Yk];refine Stp.cond (fun h0=>?_) (fun h0=>?_)
  ·have h0:(Q4z s p).1=0:=by simpa using h0
   refine Stp.ret ?_;rw [← hp,hb,if_pos (.inl h0)];rfl
  have h0:(Q4z s p).1≠0:=by simpa using h0
  refine Stp.cond (fun h1=>?_) (fun h1=>?_)
  ·have h1:(Q4z s p).1=65533:=by have:=of_decide_eq_true h1;omega
   refine Stp.chk (by simp;omega) ?_;rw [Dd];refine Stp.bind (V:=(· = decide (3≤(s.drop p).length∧(s.drop p).take 3 = [239,191,189]))) ⟨_,rfl,.of fun N=>Qsf N _⟩ ?_
   rintro v rfl
   have hwi:=Qor hl h1;refine Stp.cond (fun h2=>?_) (fun h2=>?_)
   ·have h2:¬ (3≤(s.drop p).length∧(s.drop p).take 3 = [239,191,189]):=by
     have:(!decide (3≤(s.drop p).length∧(s.drop p).take 3 = [239,191,189]))=true:=h2;simpa only [Np,decide_eq_false_iff_not] using this
    have h3:Qne s p:=Lq fun h=>h2 (hwi.2 h);refine Stp.ret ?_;rw [← hp,hb,if_pos (.inr h3)];rfl
   have h2:(3≤(s.drop p).length∧(s.drop p).take 3 = [239,191,189]):=by
    have:(!decide (3≤(s.drop p).length∧(s.drop p).take 3 = [239,191,189]))=false:=h2;simpa only [Bool.not_eq_false',decide_eq_true_eq] using this
   refine Stp.go (p+(Q4z s p).2) ⟨?_,by have:=hw.1;have:=hw.2.1;omega⟩;rw [← hp,hb,if_neg]
   rintro (h | h)
   ·exact h0 h
   exact hwi.1 h2 h
  have h1:(Q4z s p).1≠65533:=by intro e;rw [e] at h1;simp at h1
  refine Stp.go (p+(Q4z s p).2) ⟨?_,by have:=hw.1;have:=hw.2.1;omega⟩;rw [← hp,hb,if_neg]
  rintro (h | h)
  ·exact h0 h
  unfold Qne at h;rw [h] at h1;exact h1 rfl
 have hl:¬ p<s.length:=fun hlt=>by
  have h':Nat.blt p s.length=true:=by rw [Cb];exact hlt
  rw [h'] at h;cases h
 refine Stp.ret ?_;rw [← hp,Qih,dif_neg hl];rfl
def Qa0 (s:List UInt8):Bool:=decide (s.length≤65535)&&(Qih s 0).isNone
theorem Qsd (o:Option Nat):decide (Qw5 o = -1)=o.isNone:=by
 cases o with
 | none=>rfl
 | some p=>simp [Qw5]
theorem Qnn (s:List UInt8):Tot (fun N=>Xh N s) (Qa0 s):=by
 refine TotP.tot ?_;show TotP (fun N=>cond (Q5 .leq (s.length:Int) 65535) _ _) _;rw [G9];refine TotP.cond (fun h=>?_) (fun h=>?_)
 ·have h:s.length≤65535:=by have:=of_decide_eq_true h;omega
  refine TotP.bindE (Quu s) (.ret ?_);rw [Yk,Qsd];simp [Qa0,h]
 have h:¬ s.length≤65535:=by have:=of_decide_eq_false h;omega
 exact .ret (by simp [Qa0,h])
end
end Go.Av
namespace Go.Av
noncomputable section
open Go.Proofs
theorem Qqp (s:List UInt8):Tot (fun N=>Q30 N s) (decide (s ≠ [])&&Qa0 s):=by
 refine TotP.tot ?_;show TotP (fun N=>cond (Q0m .neq s []) _ _) _
 have e:Q0m .neq s []=decide (s ≠ []):=by cases s<;>rfl
 rw [e];refine TotP.cond (fun h=>?_) (fun h=>?_)
 ·exact .bindE (Qnn s) (.ret (by rw [h];rfl))
 exact .ret (by rw [h];rfl)
theorem Qoz (c:UInt8):∀ (l:List UInt8) (i:Nat),(0≤Qk1 l c i)↔c∈l
 | [],i=>by simp [Qk1]
 | b::l,i=>by
  unfold Qk1
  by_cases h:b == c
  ·rw [if_pos h];have:=eq_of_beq h;subst this;simp
  rw [if_neg h,Qoz c l (i+1)];have:¬ c=b:=fun e=>h (by simp [e]);simp [this]
theorem Qr0 {c:Nat} (h:Q90 c) (h1:128≤c):∃ l:List UInt8,(Utf8.encode (c:Int)).data.toList=l∧2≤l.length∧l.length≤4∧∀ b∈l,128≤b.toNat:=by
 have hv:=(Qhh c).2 h;unfold Utf8.encode;simp only [hv,if_true,Lw];have h2:=h.2
 have m:∀ n,n<256→128≤n→128≤(UInt8.ofNat n).toNat:=fun n a b=>by rw [Ct];omega
 rw [if_neg (by omega)];split
 ·refine ⟨_,rfl,by simp,by simp,fun b hb=>?_⟩;simp only [Mr,Cg,or_false] at hb
  rcases hb with rfl | rfl<;>exact m _ (by omega) (by omega)
 split
 ·refine ⟨_,rfl,by simp,by simp,fun b hb=>?_⟩;simp only [Mr,Cg,or_false] at hb
  rcases hb with rfl | rfl | rfl<;>exact m _ (by omega) (by omega)
 refine ⟨_,rfl,by simp,by simp,fun b hb=>?_⟩;simp only [Mr,Cg,or_false] at hb
 rcases hb with rfl | rfl | rfl | rfl<;>exact m _ (by omega) (by omega)
theorem Qqx (M:Nat):Zz (M+3) [43,35] (M+3) 0=some (-1):=by
 have e1:Q9u [43,35] 0=(43,1):=by decide
 have e2:Q9u [43,35] (0+1)=(35,1):=by decide
 have b0:Nat.blt 0 ([43,35]:List UInt8).length=true:=rfl;have b1:Nat.blt (0+1) ([43,35]:List UInt8).length=true:=rfl;have b2:Nat.blt (0+1+1) ([43,35]:List UInt8).length=false:=rfl
 have c1:Q5 .eql ((43:Nat):Int) 65533=false:=by decide
 have c2:Q5 .eql ((35:Nat):Int) 65533=false:=by decide
 rw [Zz,e1,b0,cond_true,c1,cond_false,Zz,e2,b1,cond_true,c2,cond_false,Zz,b2,cond_false]
theorem Qtm {c:Nat} (hc:Q90 c) (N:Nat):Xr N (c:Int)=some true:=by
 unfold Xr;simp only [G9,Qq];obtain ⟨k1,k2⟩:=hc;rw [decide_eq_true (show (0:Int)≤(c:Int) by omega)]
 by_cases h5:(c:Int)<55296
 ·rw [decide_eq_true h5];rfl
 have h6:(57343:Int)<(c:Int):=by omega
 have h7:(c:Int)≤1114111:=by omega
 rw [decide_eq_false h5,decide_eq_true h6,decide_eq_true h7];rfl
theorem Qsj {c:Nat} (hc:Q90 c) (h:128≤c) (M:Nat):Xf (M+1) [43,35] (c:Int) (M+1)=some (-1):=by
 obtain ⟨l,hl,l1,l2,l3⟩:=Qr0 hc h;rw [Xf];simp only [hl,Qq,Y8]
 have ew:wrap .i64 ((l.length:Int) - 1)=((l.length - 1:Nat):Int):=by rw [w64 _ (by omega)];omega
 rw [ew]
 by_cases h2:l.length=2
 ·have e1:((l.length - 1:Nat):Int)=((1:Nat):Int):=by rw [h2]
  rw [e1];have e2:idx l ((1:Nat):Int)=some l[1]:=Zg (by omega);have e3:=l3 l[1] (Mj _);generalize l[1]=y at e2 e3
  have e4:decide (((35:UInt8).toNat:Int)≠(y.toNat:Int))=true:=by
   have:(35:UInt8).toNat=35:=rfl;simp only [ne_eq,decide_eq_true_eq];omega
  have e5:idx ([43,35]:List UInt8) ((1:Nat):Int)=some 35:=rfl
  have e6:wrap .i64 (((1:Nat):Int)+1)=2:=by decide
  have e7:decide (((1:Nat):Int)<((([43,35]:List UInt8).length:Nat):Int))=true:=by decide
  have e8:decide ((0:Int)≤2)=true:=by decide
  rw [e7,cond_true,e5,Lh,e2,Lh,e4,cond_true,e6,e8,cond_true]
  have e9:(Nat.ble (Int.toNat 2) ([43,35]:List UInt8).length&&Nat.ble ([43,35]:List UInt8).length ([43,35]:List UInt8).length)=true:=by decide
  rw [e9,cond_true,Lh];rfl
 have e1:decide (((l.length - 1:Nat):Int)<((([43,35]:List UInt8).length:Nat):Int))=false:=by
  simp;omega
 rw [e1];rfl
theorem Qfz {c:Nat} (hc:Q90 c):TotP (fun N=>Ux N [43,35] (c:Int)) (fun v=>decide (v≥0)=decide (c=43∨c=35)):=by
 show TotP (fun N=>cond (Q5 .leq 0 (c:Int)) _ _) _
 have e0:Q5 .leq 0 (c:Int)=true:=by rw [G9];simp
 rw [e0];refine TotP.cond (fun _=>?_) (fun h=>by cases h);unfold Wc;rw [Qq,Yk];refine TotP.cond (fun h=>?_) (fun h=>?_)
 ·have h:c<128:=by have:=of_decide_eq_true h;omega
  have ew:wrap .u8 (c:Int)=c:=by
   rw [IntWalk.u8_in];omega
  refine TotP.bindE (v:=Qk1 [43,35] (UInt8.ofNat c) 0) (.of fun N=>?_) (.ret ?_)
  ·show ((Yy N [43,35] _).bind fun v=>some v)=_;rw [ew];rfl
  have:=Qoz (UInt8.ofNat c) [43,35] 0;rw [decide_eq_decide];show (0≤_)↔_;rw [this]
  have e1:∀ n,n<256→(UInt8.ofNat c=UInt8.ofNat n↔c=n):=fun n hn=>by
   rw [← UInt8.toNat_inj,Ct,Ct];omega
  have a:=e1 43 (by omega);have b:=e1 35 (by omega);simp only [Mr,Cg,or_false];exact or_congr a b
 have h:128≤c:=by have:=of_decide_eq_false h;omega
 have hn:decide (c=43∨c=35)=false:=by simp;omega
 refine TotP.cond (fun h1=>?_) (fun h1=>?_)
 ·-- bytes that are none
  refine ⟨-1,by rw [hn];rfl,3,fun N hN=>?_⟩;obtain ⟨M,rfl⟩:∃ M,N=M+3:=⟨N - 3,by omega⟩;exact Qqx M
 refine TotP.bindE (.of (Qtm hc)) ?_;refine TotP.cond (fun h=>by cases h) (fun _=>?_);refine ⟨-1,by rw [hn];rfl,1,fun N hN=>?_⟩;obtain ⟨M,rfl⟩:∃ M,N=M+1:=⟨N - 1,by omega⟩;exact Qsj hc h M
end
end Go.Av
namespace Go.Av
noncomputable section
open Go.Proofs
def Qrw (s:List UInt8):Bool:=s.any fun b=>b.toNat == 43||b.toNat == 35
theorem Qtk {s:List UInt8} {j:Nat} (hj:j<s.length) (h:at8 s j=43∨at8 s j=35):Qrw s=true:=by
 unfold Qrw;rw [Cf];refine ⟨s[j],Mj _,?_⟩;rw [Q7f hj] at h
 rcases h with h | h<;>simp [h]
theorem Qt2 {s:List UInt8} (h:∀ j,j<s.length→at8 s j≠43∧at8 s j≠35):Qrw s=false:=by
 unfold Qrw;rw [Cw];intro b hb;obtain ⟨j,hj,rfl⟩:=Bg hb;have:=h j hj;rw [Q7f hj] at this;simp [this.1,this.2]
def asciiS:List Bool:=(List.range 256).map fun n=>n == 43||n == 35
theorem Qpx (n:Nat) (h:n<256):idx asciiS (n:Int)=some (n == 43||n == 35):=by
 have hl:n<asciiS.length:=by simp [asciiS];exact h
 rw [Zg hl];simp [asciiS]
set_option maxRecDepth 20000 in
theorem Qhu (s:List UInt8) (hs:s.length≤maxLen):TotP (fun N=>U0 N s) (fun v=>decide (v≥0)=Qrw s):=by
 have hm:=Q65;show TotP (fun N=>cond (Q0m .eql [43,35] []) _ _) _;refine TotP.cond (fun h=>by cases h) (fun _=>?_);refine TotP.bindE (v:=decide ((s.length:Int)>8)) (.of fun N=>rfl) ?_;refine TotP.cond (fun _=>?_) (fun _=>?_)
 ·refine Q5o (L:=fun N n i=>Yx N s n i) s.length (fun i=>∀ j,j<i→at8 s j≠43∧at8 s j≠35) (fun i hi hj=>?_) (fun hj=>?_) (fun j hj=>by omega)
  ·show Stp _ _ _ (fun N n=>cond (Q5 .lss (i:Int) (s.length:Int)) _ _);refine Stp.cond (fun _=>?_) (fun h=>by rw [Qq] at h;have:=of_decide_eq_false h;omega);refine Stp.idx (Zg hi) ?_;have hb:=Di s[i];refine Stp.chk (by simp;omega) ?_;refine Stp.idx (Qpx _ (by omega)) ?_;refine Stp.cond (fun h=>?_) (fun h=>?_)
   ·refine Stp.ret ?_;rw [Qtk hi (by rw [Q7f hi];simpa using h)];simp
   rw [w64 _ (by omega)];refine Stp.go _ ⟨by omega,fun j hj'=>?_⟩
   by_cases e:j=i
   ·subst e;rw [Q7f hi];simpa using h
   exact hj j (by omega)
  show Stp _ _ _ (fun N n=>cond (Q5 .lss (s.length:Int) (s.length:Int)) _ _);refine Stp.cond (fun h=>by rw [Qq] at h;have:=of_decide_eq_true h;omega) (fun _=>?_);refine Stp.ret ?_;rw [Qt2 hj];rfl
 refine Q6n (L:=fun N n (p:Nat)=>Yw N s n p) (fun p=>∀ j,j<p→at8 s j≠43∧at8 s j≠35) (fun p=>s.length - p) (fun p hp=>?_) 0 (fun j hj=>by omega);show Stp _ _ _ (fun N n=>cond (Nat.blt p s.length) _ _);refine Stp.cond (fun h=>?_) (fun h=>?_)
 ·have hl:p<s.length:=by simpa [Nat.blt_eq] using h
  rw [Qkz];obtain ⟨w1,w2,w3,w4,w5,w6⟩:=Qle s p hl;refine Stp.bind (Qfz w6) ?_;intro v hv;rw [Jh,hv];refine Stp.cond (fun h=>?_) (fun h=>?_)
  ·have h:=of_decide_eq_true h;have h128:at8 s p<128:=w3.1 (by omega);refine Stp.ret ?_;rw [Qtk hl (by rw [← (w4 h128).1];exact h)];simp
  have h:=of_decide_eq_false h;refine Stp.go _ ⟨fun j hj=>?_,by omega⟩
  by_cases e:j<p
  ·exact hp j e
  by_cases e2:j=p
  ·subst e2
   by_cases h128:at8 s j<128
   ·rw [(w4 h128).1] at h;omega
   omega
  have:=w5 (j - p) (by omega) (by omega);rw [show p+(j - p)=j by omega] at this;omega
 refine Stp.ret ?_;rw [Qt2 (fun j hj=>hp j ?_)]
 ·rfl
 have:¬ p<s.length:=fun hlt=>by
  have h':Nat.blt p s.length=true:=by rw [Cb];exact hlt
  rw [h'] at h;cases h
 omega
theorem Qhw (s:List UInt8) (hs:s.length≤maxLen):Tot (fun N=>Ww N s) (Qrw s):=by
 refine TotP.tot ?_;refine TotP.bind (Qhu s hs) (fun v hv => .ret ?_);rw [Jh];exact hv
def Jd (s:List UInt8):Bool:=decide (s ≠ [])&&Qa0 s && !Qrw s
theorem Q46 (s:List UInt8) (hs:s.length≤maxLen):Tot (fun N=>Yq N s) (Jd s):=by
 refine TotP.tot ?_;refine TotP.bindE (Qqp s) ?_;refine TotP.cond (fun h=>?_) (fun h=>?_)
 ·refine TotP.bindE (Qhw s hs) (.ret ?_);unfold Jd;rw [h];rfl
 exact .ret (by unfold Jd;rw [h];rfl)
end
end Go.Av
namespace Go.Av
noncomputable section
def Any {R:Type} (f:Nat→Option R):Prop:=TotP f fun _=>True
theorem Qb2 (N:Nat) (x a b:Int):Va N x a b=some (decide (a≤x)&&decide (x≤b)):=by
 unfold Va;rw [Jh,G9]
 by_cases h:a≤x
 ·rw [decide_eq_true (p:=x≥a) h];rfl
 rw [decide_eq_false (p:=x≥a) h];rfl
theorem Q97 (n size:Int):TotP (fun N=>Zy N n size) (fun l=>l.length≤16):=by
 show TotP (fun N=>cond (Q5 .leq size 0) _ _) _;rw [G9];refine TotP.cond (fun _ => .ret (by simp)) (fun h=>?_)
 have h:0<size:=by have:=of_decide_eq_false h;omega
 obtain ⟨m,hm,hm16⟩:∃ m:Nat,ifB (decide (16<size)) (16:Int) size=(m:Int)∧m≤16:=by
  by_cases g:16<size
  ·exact ⟨16,by rw [decide_eq_true g];rfl,by omega⟩
  exact ⟨size.toNat,by rw [decide_eq_false g];show size=_;omega,by omega⟩
 rw [hm];refine TotP.chk (by simp only [Lb,decide_eq_true_eq];omega) ?_;have:=Q6n (L:=fun N n' (p:Int×List Int)=>Yd N n size n' p.1 p.2) (Q:=fun l:List UInt8=>l.length≤16) (fun p=>∃ i:Nat,p.1=(i:Int)∧i≤m∧p.2.length=m) (fun p=>m - p.1.toNat)
  ?_ (0,List.replicate ((m:Int).toNat) 0) ⟨0,rfl,by omega,by simp⟩
 ·exact this
 rintro ⟨s,l⟩ ⟨i,hs,hi,hl⟩
 simp only at hs hl
 subst hs;show Stp _ _ _ (fun N n'=>cond (Q5 .lss (i:Int) (ifB (decide (16<size)) 16 size)) _ _);rw [hm,Qq,Qq];refine Stp.cond (fun h=>?_) (fun h=>?_)
 ·have h:=of_decide_eq_true h
  have e1:wrap .i64 ((i:Int)+1)=((i+1:Nat):Int):=by rw [w64 _ (by omega)];omega
  refine Stp.cond (fun h8=>?_) (fun h8=>?_)
  ·have h8:=of_decide_eq_true h8;refine Stp.chk ?_ ?_
   ·rw [w64 (8 * (i:Int)) (by omega)]
    have:i=0∨i=1∨i=2∨i=3∨i=4∨i=5∨i=6∨i=7:=by omega
    rcases this with rfl | rfl | rfl | rfl | rfl | rfl | rfl | rfl<;>rfl
   have e2:wrap .i64 (wrap .i64 ((m:Int) - 1) - (i:Int))=((m - 1 - i:Nat):Int):=by rw [w64 ((m:Int) - 1) (by omega),w64 _ (by omega)];omega
   rw [e1,e2];refine Stp.idx (Zg (show m - 1 - i<l.length by omega)) ?_;refine Stp.go (L:=fun N n' (p:Int×List Int)=>Yd N n size n' p.1 p.2) (_,_) ⟨⟨i+1,rfl,by omega,by simp [hl]⟩,?_⟩;simp only [Lw];omega
  rw [e1];refine Stp.go (L:=fun N n' (p:Int×List Int)=>Yd N n size n' p.1 p.2) (_,_) ⟨⟨i+1,rfl,by omega,hl⟩,?_⟩;simp only [Lw];omega
 exact Stp.ret (by simp [hl];exact hm16)
theorem Qix (h:V0) (hh:h.Node.length≤300):TotP (fun N=>Ul N h) (fun l=>l.length≤400):=by
 refine TotP.bind (Q97 _ _) (fun a ha=>?_);refine TotP.bind (Q97 _ _) (fun b hb=>?_);refine TotP.chk (by rw [Lx];omega) ?_;refine TotP.bind (Q97 _ _) (fun c hc=>?_);refine TotP.chk (by rw [Lx];simp;omega) ?_;refine TotP.chk (by rw [Lx];simp;omega) (.ret ?_)
 simp;omega
theorem Qpf (h:V0):Any (fun N=>J4 N h):=by
 refine TotP.bind (V:=fun _=>True) ?_ (fun _ _ => .ret trivial);show TotP (fun N=>cond (Q5 .geq h.Radius 0) _ _) _;refine TotP.cond (fun _=>TotP.cond (fun _=>TotP.cond (fun _ => .ret trivial) (fun _ => .ret trivial)) (fun _ => .ret trivial)) (fun _ => .ret trivial)
section
variable (e:Qc) (lm:X2) (h1:e.Hops.length≤8) (h2:∀ h∈e.Hops,h.Node.length≤300)
include h1 h2
end
end
end Go.Av
namespace Go.Av
noncomputable section
section
variable {R S T:Type} {L:Nat→Nat→S→Option R} {P:S→Prop} {Q:R→Prop}
end
end
end Go.Av
namespace Go.Av
noncomputable section
structure OkE (e:Qc):Prop where
 topic:e.Topic.length≤maxLen
 props:e.Props.length≤maxLen
 filters:e.Packet.Filters.length≤maxLen
 pprops:e.Packet.Props.length≤maxLen
 wprops:e.Packet.Will.Props.length≤maxLen
structure LightE (e:Qc):Prop where
 topic:e.Topic.length≤2000
 payload:e.Payload.length≤2000
 props:e.Props.length≤30∧∀ p∈e.Props,p.Text.length≤300∧p.Value.length≤300
 hops:e.Hops.length≤8∧∀ h∈e.Hops,h.Node.length≤300
def Lv (o:Option Int) (P:Prop):Prop:=∃ v,o=some v∧(v=0→P)
theorem Lv.of {v:Int} {P:Prop} (h:P):Lv (some v) P:=⟨v,rfl,fun _=>h⟩
theorem Lv.no {v:Int} {P:Prop} (h:v≠0):Lv (some v) P:=⟨v,rfl,fun e=>absurd e h⟩
theorem Lv.cond {b:Bool} {x y:Option Int} {P:Prop} (h1:Lv x P) (h2:Lv y P):Lv (cond b x y) P:=by cases b<;>assumption
structure PubE (e:Qc):Prop where
 proto:e.Proto=1∨e.Proto=2∨e.Proto=3∨e.Proto=4
 kind:e.Kind=1
 qos:e.QoS = -1∨e.QoS=0∨e.QoS=1∨e.QoS=2
theorem Q7u (N:Nat) (p:Int):Q0h N p=some (decide (p=1∨p=2∨p=3∨p=4)):=by
 by_cases h:p=1∨p=2∨p=3∨p=4
 ·rw [decide_eq_true h];rcases h with rfl | rfl | rfl | rfl<;>rfl
 have h0:Qam Ja p=none:=by
  have h1:(p == 1)=false:=by simp;omega
  have h2:(p == 2)=false:=by simp;omega
  have h3:(p == 3)=false:=by simp;omega
  have h4:(p == 4)=false:=by simp;omega
  unfold Ja;simp only [Qam,h1,h2,h3,h4,cond_false]
 unfold Q0h;rw [h0,decide_eq_false h];rfl
end
end Go.Av
namespace Go.Av
noncomputable section
open Go.Proofs
set_option maxRecDepth 100000
end
end Go.Av
namespace Go.Av
noncomputable section
open Go.Proofs
set_option maxRecDepth 100000
end
end Go.Av
namespace Go.Av
noncomputable section
open Go.Proofs
set_option maxRecDepth 100000
end
end Go.Av
namespace Go.Av
noncomputable section
open Go.Proofs
set_option maxRecDepth 100000
end
end Go.Av
namespace Go.Av
noncomputable section
open Go.Proofs
set_option maxRecDepth 100000
end
end Go.Av
namespace Go.Av
noncomputable section
open Go.Proofs
set_option maxRecDepth 100000
end
end Go.Av
namespace Go.Av
noncomputable section
open Go.Proofs
set_option maxRecDepth 100000
structure FB (f:Zi):Prop where
 fine:∀ x∈f.Values,Fine x
 sz:Q2.szs f.Values<160000000
 wgt:Q2.wgts f.Values<4000000000
theorem FB.len {f:Zi} (h:FB f):f.Values.length<160000000:=by
 have h1:=Q2.szs_len f.Values;have h2:=h.sz;omega
end
end Go.Av
namespace Go.Av
noncomputable section
open Go.Proofs
set_option maxRecDepth 100000
theorem Zi.ext' {a b:Zi} (h1:a.Type'=b.Type') (h2:a.Channel=b.Channel) (h3:a.Ext=b.Ext) (h4:a.Values=b.Values):a=b:=by cases a;cases b;simp_all
noncomputable instance:DecidableEq Zi:=fun a b=>decidable_of_iff (a.Type'=b.Type'∧a.Channel=b.Channel∧a.Ext=b.Ext∧a.Values=b.Values) ⟨fun h=>Zi.ext' h.1 h.2.1 h.2.2.1 h.2.2.2,fun h=>by rw [h];exact ⟨rfl,rfl,rfl,rfl⟩⟩
theorem Ql7 (l m:List Q2) (i:Nat) (h:i<l.length) (h':i<m.length):decide (l.drop i=m.drop i)=(decide (l[i]=m[i])&&decide (l.drop (i+1)=m.drop (i+1))):=by
 rw [Nh h,Nh h',Dg];simp only [decide_eq_true_eq,Lb,Bq]
theorem Qi0 {N:Nat} (hN:800000000≤N) {a b:Zi} (ha:Q2.szs a.Values<700000000) (hl:a.Values.length=b.Values.length):∀ (n i:Nat),i≤a.Values.length→a.Values.length - i<n→Yv N a b n (i:Int)=some (decide (a.Values.drop i=b.Values.drop i))
 | 0,i,_,h=>by omega
 | n+1,i,hi,hn=>by
  have hs:=Q2.szs_len a.Values;simp only [Yv,Q0t,Qjt,Q1j,Q5u]
  by_cases h:i<a.Values.length
  ·have h':i<b.Values.length:=by omega
   have hx:=Q2.szs_mem _ _ (Mj h);rw [if_pos (by omega),Lc h,Lc h'];simp only [Lh];rw [Qqe N _ _ (by omega) (by omega),Ql7 _ _ i h h'];simp only [Lh];rw [Q6v _ (by omega)];have ih:=Qi0 hN ha hl n (i+1) (by omega) (by omega)
   have ih:Yv N a b n ((i:Int)+1)=some (decide (a.Values.drop (i+1)=b.Values.drop (i+1))):=by exact_mod_cast ih
   rw [ih];cases decide (a.Values[i]=b.Values[i])<;>rfl
  rw [if_neg (by omega),Ml (by omega),Ml (by omega)];rfl
theorem Qq9 {N:Nat} (hN:800000000≤N) (a b:Zi) (ha:Q2.szs a.Values<700000000):Jt N a b=some (decide (a=b)):=by
 have hs:=Q2.szs_len a.Values;simp only [Jt,Q0t,Qs0,Qan,Q1j]
 by_cases h1:a.Type'=b.Type'
 ·rw [if_neg (by simp [h1])]
  by_cases h2:a.Channel=b.Channel
  ·rw [if_neg (by simp [h2])]
   by_cases h3:a.Ext=b.Ext
   ·rw [if_neg (by simp [h3])]
    by_cases h4:a.Values.length=b.Values.length
    ·rw [if_neg (by simp [h4])];have:=Qi0 hN ha h4 N 0 (by omega) (by omega);rw [Nm,Nm] at this
     have:Yv N a b N 0=some (decide (a.Values=b.Values)):=by exact_mod_cast this
     rw [this]
     congr 1
     rw [Dg];simp only [decide_eq_true_eq];exact ⟨fun h=>Zi.ext' h1 h2 h3 h,fun h=>by rw [h]⟩
    rw [if_pos (by omega),decide_eq_false (fun h=>h4 (by rw [h]))]
   rw [if_pos h3,decide_eq_false (fun h=>h3 (by rw [h]))]
  rw [if_pos h2,decide_eq_false (fun h=>h2 (by rw [h]))]
 rw [if_pos h1,decide_eq_false (fun h=>h1 (by rw [h]))]
theorem Q9o {N:Nat} (hN:800000000≤N) {a b:Zi} (ha:Q2.szs a.Values<700000000) (hl:a.Values.length=b.Values.length):∀ (n i:Nat),i≤a.Values.length→a.Values.length - i<n→Zu N a b n (i:Int)=some (decide (a.Values.drop i=b.Values.drop i))
 | 0,i,_,h=>by omega
 | n+1,i,hi,hn=>by
  have hs:=Q2.szs_len a.Values;simp only [Zu,Q0t,Qjt,Q1j,Q5u]
  by_cases h:i<a.Values.length
  ·have h':i<b.Values.length:=by omega
   have hx:=Q2.szs_mem _ _ (Mj h);rw [if_pos (by omega),Lc h,Lc h'];simp only [Lh];rw [Qdw N _ _ (by omega) (by omega),Ql7 _ _ i h h'];simp only [Lh];rw [Q6v _ (by omega)];have ih:=Q9o hN ha hl n (i+1) (by omega) (by omega)
   have ih:Zu N a b n ((i:Int)+1)=some (decide (a.Values.drop (i+1)=b.Values.drop (i+1))):=by exact_mod_cast ih
   rw [ih];cases decide (a.Values[i]=b.Values[i])<;>rfl
  rw [if_neg (by omega),Ml (by omega),Ml (by omega)];rfl
theorem Q9x {N:Nat} (hN:800000000≤N) (a b:Zi) (ha:Q2.szs a.Values<700000000):W5 N a b=some (decide (a=b)):=by
 have hs:=Q2.szs_len a.Values;simp only [W5,Q0t,Qs0,Qan,Q1j]
 by_cases h1:a.Type'=b.Type'
 ·rw [if_neg (by simp [h1])]
  by_cases h2:a.Channel=b.Channel
  ·rw [if_neg (by simp [h2])]
   by_cases h3:a.Ext=b.Ext
   ·rw [if_neg (by simp [h3])]
    by_cases h4:a.Values.length=b.Values.length
    ·rw [if_neg (by simp [h4])];have:=Q9o hN ha h4 N 0 (by omega) (by omega);rw [Nm,Nm] at this
     have:Zu N a b N 0=some (decide (a.Values=b.Values)):=by exact_mod_cast this
     rw [this]
     congr 1
     rw [Dg];simp only [decide_eq_true_eq];exact ⟨fun h=>Zi.ext' h1 h2 h3 h,fun h=>by rw [h]⟩
    rw [if_pos (by omega),decide_eq_false (fun h=>h4 (by rw [h]))]
   rw [if_pos h3,decide_eq_false (fun h=>h3 (by rw [h]))]
  rw [if_pos h2,decide_eq_false (fun h=>h2 (by rw [h]))]
 rw [if_pos h1,decide_eq_false (fun h=>h1 (by rw [h]))]
end
end Go.Av
namespace Go.Av
noncomputable section
theorem Qfx (x y:List UInt8):Q0m .eql x y=decide (x=y):=by
 show (x == y)=_
 by_cases h:x=y
 ·rw [h];simp
 rw [decide_eq_false h];exact beq_eq_false_iff_ne.2 h
theorem Qr1 (x y:List UInt8):Q0m .neq x y=decide (x≠y):=by
 show (!(x == y))=_
 by_cases h:x=y
 ·rw [h];simp
 rw [decide_eq_true h,beq_eq_false_iff_ne.2 h];rfl
section
variable {T:Type}
theorem Qd0 {L:Nat→Nat→Int→Option Bool} {a b:List T} {eq:T→T→Bool} (heq:∀ x y,eq x y=true↔x=y) (hab:a.length=b.length) (hm:a.length≤maxLen)
  (Z5:∀ N n (i:Nat) (h:i<a.length) (h':i<b.length),L N (n+1) (i:Int)=cond (!(eq a[i] b[i])) (some false) (L N n (wrap .i64 ((i:Int)+1)))) (fin:∀ N n,L N (n+1) (a.length:Int)=some true) :
  TotP (fun N=>L N N 0) (fun v=>v=true↔a=b):=by
 have hml:=Q65;refine Q5o (L:=L) a.length (fun i=>∀ j (h:j<a.length) (h':j<b.length),j<i→a[j]=b[j]) (fun i hi hj=>?_) (fun hj=>?_) (fun j _ _ hj=>by omega)
 ·have e:(fun N n=>L N (n+1) (i:Int))=fun N n=>cond (!(eq (a[i]'hi) (b[i]'(by omega)))) (some false) (L N n (wrap .i64 ((i:Int)+1))):=by
   funext N n;exact Z5 N n i hi (by omega)
  rw [e,w64 _ (by omega)];refine Stp.cond (fun h=>Stp.ret ?_) (fun h=>Stp.go (L:=L) _ ⟨by omega,fun j hj1 hj2 hji=>?_⟩)
  ·have h:¬ eq (a[i]'hi) (b[i]'(by omega))=true:=by simpa using h
   refine ⟨fun h=>(by cases h),fun e=>absurd ((heq _ _).2 ?_) h⟩;subst e;rfl
  have h:eq (a[i]'hi) (b[i]'(by omega))=true:=by simpa using h
  by_cases e:j=i
  ·subst e;exact (heq _ _).1 h
  exact hj j hj1 hj2 (by omega)
 have e:(fun N n=>L N (n+1) (a.length:Int))=fun _ _=>some true:=by funext N n;exact fin N n
 rw [e];exact Stp.ret ⟨fun _=>List.ext_getElem hab (fun j h1 h2=>hj j h1 h2 h1),fun _=>rfl⟩
end
theorem Qy0 {x y:Zq}:(((x.ID:Int) == y.ID)&&(((x.N':Int) == y.N')&&(((x.Text:List UInt8) == y.Text)&&(((x.Value:List UInt8) == y.Value)&&true))))=true↔x=y:=by
 cases x;cases y;simp
theorem Zdg {x y:V0}:(((x.Radius:Int) == y.Radius)&&(((x.Node:List UInt8) == y.Node)&&true))=true↔x=y:=by
 cases x;cases y;simp
theorem Qpb {x y:Zb}:(((x.Topic:List UInt8) == y.Topic)&&(((x.QoS:Int) == y.QoS)&&(((x.NoLocal:Bool) == y.NoLocal)&&(((x.AsPublished:Bool) == y.AsPublished)&&(((x.Handling:Int) == y.Handling)&&true)))))=true↔x=y:=by
 cases x;cases y;simp
theorem Q9t (a b:List Zq) (ha:a.length≤maxLen):TotP (fun N=>W4 N a b) (fun v=>v=true↔a=b):=by
 unfold W4;rw [Q6,Q6,Y8];refine TotP.cond (fun h => .ret ⟨fun h=>(by cases h),fun e=>?_⟩) (fun h=>?_)
 ·have:=of_decide_eq_true h;subst e;exact absurd rfl this
 have h:=of_decide_eq_false h
 have hab:a.length=b.length:=by omega
 refine Qd0 (L:=fun N n i=>X7 N a b n i) (eq:=fun x y=>((x.ID:Int) == y.ID)&&(((x.N':Int) == y.N')&&(((x.Text:List UInt8) == y.Text)&&(((x.Value:List UInt8) == y.Value)&&true)))) (fun _ _=>Qy0) hab ha (fun N n i h h'=>?_) (fun N n=>?_)
 ·show cond (Q5 .lss (i:Int) ((Q9 Zq.cells a).length:Int)) ((idx a (i:Int)).bind _) _=_;rw [Q6,Qq,decide_eq_true (by omega),Zg h,Zg h'];rfl
 show cond (Q5 .lss (a.length:Int) ((Q9 Zq.cells a).length:Int)) _ _=_;rw [Q6,Qq,decide_eq_false (by omega)];rfl
theorem Qdg (a b:List Zb) (ha:a.length≤maxLen):TotP (fun N=>Wf N a b) (fun v=>v=true↔a=b):=by
 unfold Wf;rw [Q6,Q6,Y8];refine TotP.cond (fun h => .ret ⟨fun h=>(by cases h),fun e=>?_⟩) (fun h=>?_)
 ·have:=of_decide_eq_true h;subst e;exact absurd rfl this
 have h:=of_decide_eq_false h
 have hab:a.length=b.length:=by omega
 refine Qd0 (L:=fun N n i=>Yn N a b n i) (eq:=fun x y=>((x.Topic:List UInt8) == y.Topic)&&(((x.QoS:Int) == y.QoS)&&(((x.NoLocal:Bool) == y.NoLocal)&&(((x.AsPublished:Bool) == y.AsPublished)&&(((x.Handling:Int) == y.Handling)&&true))))) (fun _ _=>Qpb) hab ha (fun N n i h h'=>?_) (fun N n=>?_)
 ·show cond (Q5 .lss (i:Int) ((Q9 Zb.cells a).length:Int)) ((idx a (i:Int)).bind _) _=_;rw [Q6,Qq,decide_eq_true (by omega),Zg h,Zg h'];rfl
 show cond (Q5 .lss (a.length:Int) ((Q9 Zb.cells a).length:Int)) _ _=_;rw [Q6,Qq,decide_eq_false (by omega)];rfl
theorem Qju (a b:List Int) (ha:a.length≤maxLen):TotP (fun N=>Jj N a b) (fun v=>v=true↔a=b):=by
 unfold Jj;rw [Q6,Q6,Y8];refine TotP.cond (fun h => .ret ⟨fun h=>(by cases h),fun e=>?_⟩) (fun h=>?_)
 ·have:=of_decide_eq_true h;subst e;exact absurd rfl this
 have h:=of_decide_eq_false h
 have hab:a.length=b.length:=by omega
 refine Qd0 (L:=fun N n i=>Wz N a b n i) (eq:=fun x y=>Q5 .eql x y) (fun x y=>by rw [Yk];exact decide_eq_true_iff) hab ha (fun N n i h h'=>?_) (fun N n=>?_)
 ·show cond (Q5 .lss (i:Int) ((Q9 (cI .i64) a).length:Int)) ((idx a (i:Int)).bind _) _=_;rw [Q6,Qq,decide_eq_true (by omega),Zg h,Zg h'];rfl
 show cond (Q5 .lss (a.length:Int) ((Q9 (cI .i64) a).length:Int)) _ _=_;rw [Q6,Qq,decide_eq_false (by omega)];rfl
structure Quf (p:Ql):Prop where
 codes:p.Codes.length≤maxLen
 filters:p.Filters.length≤maxLen
 props:p.Props.length≤maxLen
 wprops:p.Will.Props.length≤maxLen
theorem Qgs (a b:Wj) (ha:a.Props.length≤maxLen):TotP (fun N=>Jf N a b) (fun v=>v=true↔a=b):=by
 obtain ⟨t,p,q,r,l⟩:=a;obtain ⟨t',p',q',r',l'⟩:=b;unfold Jf;dsimp only;rw [Qfx,Qfx,Yk];refine TotP.cond (fun h1=>?_) (fun h1 => .ret ⟨fun h=>(by cases h),fun e=>?_⟩)
 ·refine TotP.cond (fun h2=>?_) (fun h2 => .ret ⟨fun h=>(by cases h),fun e=>?_⟩)
  ·refine TotP.cond (fun h3=>?_) (fun h3 => .ret ⟨fun h=>(by cases h),fun e=>?_⟩)
   ·refine TotP.cond (fun h4=>?_) (fun h4 => .ret ⟨fun h=>(by cases h),fun e=>?_⟩)
    ·refine TotP.bind (Q9t l l' ha) (fun v hv => .ret ?_);rw [hv];have h1:=of_decide_eq_true h1;have h2:=of_decide_eq_true h2;have h3:=of_decide_eq_true h3;have h4:=eq_of_beq h4;subst h1 h2 h3 h4;simp
    injection e with _ _ _ e _;subst e;simp at h4
   injection e with _ _ e _ _;exact absurd e (of_decide_eq_false h3)
  injection e with _ e _ _ _;exact absurd e (of_decide_eq_false h2)
 injection e with e _ _ _ _;exact absurd e (of_decide_eq_false h1)
theorem Qhx (a b:Ql) (ha:Quf a):TotP (fun N=>Q2j N a b) (fun v=>v=true↔a=b):=by
 unfold Q2j;refine TotP.bindE (.of fun N=>rfl) ?_;refine TotP.bindE (.of fun N=>rfl) ?_;refine TotP.cond (fun h1=>?_) (fun h1 => .ret ⟨fun h=>(by cases h),fun e=>?_⟩)
 ·refine TotP.bind (Qgs a.Will b.Will ha.wprops) (fun v2 h2=>?_);refine TotP.cond (fun e2=>?_) (fun e2 => .ret ⟨fun h=>(by cases h),fun e=>?_⟩)
  ·refine TotP.bind (Qju a.Codes b.Codes ha.codes) (fun v3 h3=>?_);refine TotP.cond (fun e3=>?_) (fun e3 => .ret ⟨fun h=>(by cases h),fun e=>?_⟩)
   ·refine TotP.bind (Qdg a.Filters b.Filters ha.filters) (fun v4 h4=>?_);refine TotP.cond (fun e4=>?_) (fun e4 => .ret ⟨fun h=>(by cases h),fun e=>?_⟩)
    ·refine TotP.bind (Q9t a.Props b.Props ha.props) (fun v5 h5 => .ret ?_);rw [h5];have e2:=h2.1 e2;have e3:=h3.1 e3;have e4:=h4.1 e4;obtain ⟨a1,a2,a3,a4,a5,a6,a7,a8,a9,a10,a11,a12,a13,a14,a15,a16,a17,a18,a19,a20,a21⟩:=a;obtain ⟨b1,b2,b3,b4,b5,b6,b7,b8,b9,b10,b11,b12,b13,b14,b15,b16,b17,b18,b19,b20,b21⟩:=b;dsimp only at e2 e3 e4 ⊢;simp at h1;simp [h1,e2,e3,e4]
    subst e;exact absurd (h4.2 rfl) (by rw [e4];simp)
   subst e;exact absurd (h3.2 rfl) (by rw [e3];simp)
  subst e;exact absurd (h2.2 rfl) (by rw [e2];simp)
 subst e;simp at h1
end
end Go.Av
namespace Go.Av
noncomputable section
theorem Qap (n:Int) (size:Nat) (h0:1≤size) (h16:size≤16):TotP (fun N=>Zy N n (size:Int)) (fun l=>l.length=size):=by
 show TotP (fun N=>cond (Q5 .leq (size:Int) 0) _ _) _;rw [G9];refine TotP.cond (fun h=>by have:=of_decide_eq_true h;omega) (fun _=>?_)
 have hm:ifB (decide (16<(size:Int))) (16:Int) (size:Int)=(size:Int):=by rw [decide_eq_false (by omega)];rfl
 rw [hm];refine TotP.chk (by simp only [Lb,decide_eq_true_eq];omega) ?_;have:=Q6n (L:=fun N n' (p:Int×List Int)=>Yd N n (size:Int) n' p.1 p.2) (Q:=fun l:List UInt8=>l.length=size) (fun p=>∃ i:Nat,p.1=(i:Int)∧i≤size∧p.2.length=size) (fun p=>size - p.1.toNat)
  ?_ (0,List.replicate ((size:Int).toNat) 0) ⟨0,rfl,by omega,by simp⟩
 ·exact this
 rintro ⟨s,l⟩ ⟨i,hs,hi,hl⟩
 simp only at hs hl
 subst hs;show Stp _ _ _ (fun N n'=>cond (Q5 .lss (i:Int) (ifB (decide (16<(size:Int))) 16 (size:Int))) _ _);rw [hm,Qq,Qq];refine Stp.cond (fun h=>?_) (fun h=>?_)
 ·have h:=of_decide_eq_true h
  have e1:wrap .i64 ((i:Int)+1)=((i+1:Nat):Int):=by rw [w64 _ (by omega)];omega
  refine Stp.cond (fun h8=>?_) (fun h8=>?_)
  ·have h8:=of_decide_eq_true h8;refine Stp.chk ?_ ?_
   ·rw [w64 (8 * (i:Int)) (by omega)]
    have:i=0∨i=1∨i=2∨i=3∨i=4∨i=5∨i=6∨i=7:=by omega
    rcases this with rfl | rfl | rfl | rfl | rfl | rfl | rfl | rfl<;>rfl
   have e2:wrap .i64 (wrap .i64 ((size:Int) - 1) - (i:Int))=((size - 1 - i:Nat):Int):=by rw [w64 ((size:Int) - 1) (by omega),w64 _ (by omega)];omega
   rw [e1,e2];refine Stp.idx (Zg (show size - 1 - i<l.length by omega)) ?_;refine Stp.go (L:=fun N n' (p:Int×List Int)=>Yd N n (size:Int) n' p.1 p.2) (_,_) ⟨⟨i+1,rfl,by omega,by simp [hl]⟩,?_⟩;simp only [Lw];omega
  rw [e1];refine Stp.go (L:=fun N n' (p:Int×List Int)=>Yd N n (size:Int) n' p.1 p.2) (_,_) ⟨⟨i+1,rfl,by omega,hl⟩,?_⟩;simp only [Lw];omega
 exact Stp.ret (by simp [hl])
theorem Quj {R:Type} {f:Nat→Option R} {r:R} (h:Tot f r):Any f:=⟨r,trivial,h⟩
theorem TotP.any {R:Type} {f:Nat→Option R} {Q:R→Prop} (h:TotP f Q):Any f:=h.mono fun _ _=>trivial
theorem Zem {k:Int} (h:0≤k∧k≤18446744073709551615):wrap .u64 k=k:=IntWalk.u64_in k h
structure OkP (l:List Zq):Prop where
 len:l.length≤30
 txt:∀ p∈l,p.Text.length≤maxLen
structure Qqt (p:Ql):Prop where
 l:Quf p
 props:OkP p.Props
 wprops:OkP p.Will.Props
 topic:p.Topic.length≤2000
 payload:p.Payload.length≤2000
 client:p.Client.length≤2000
 user:p.User.length≤2000
 pass:p.Pass.length≤2000
 wtopic:p.Will.Topic.length≤2000
 wpayload:p.Will.Payload.length≤2000
 codes:p.Codes.length≤30
 filters:p.Filters.length≤30∧∀ f∈p.Filters,f.Topic.length≤2000
theorem ml2:2000≤maxLen:=by unfold maxLen;decide
section
variable {p:Ql} (h:Qqt p)
include h
end
end
end Go.Av
namespace Go.Av
noncomputable section
end
end Go.Av
namespace Go.Av
noncomputable section
theorem ml7:70000≤maxLen:=by unfold maxLen;decide
section
variable {p:Ql} (h:Qqt p)
include h
end
end
end Go.Av
namespace Go.Av
noncomputable section
section
variable {p:Ql} (h:Qqt p)
include h
end
end
end Go.Av
namespace Go.Av
noncomputable section
section
variable {p:Ql} (h:Qqt p)
include h
end
section
variable {p:Ql} (h:Qqt p)
include h
end
end
end Go.Av
namespace Go.Av
noncomputable section
theorem Qhi (f:Qp):Any (fun N=>U3 N f):=by
 unfold U3
 repeat' first
  | exact TotP.ret trivial
  | refine TotP.cond (fun _=>?_) (fun _=>?_)
theorem Qrg (k:Int):Any (fun N=>Q0c N k):=by
 unfold Q0c
 repeat' first
  | exact TotP.ret trivial
  | refine TotP.cond (fun _=>?_) (fun _=>?_)
theorem Qrz (k:Int) (f:Qp):Any (fun N=>Gt N k f):=by
 have j6:∀ c1 c2 c3 c4 c5 c6,Any (fun N=>Jo N c1 c2 c3 c4 c5 c6):=fun c1 c2 c3 c4 c5 c6=>TotP.ret trivial;have j5:∀ v c1 c2 c3 c4 c5,Any (fun N=>Jl N f v c1 c2 c3 c4 c5):=fun v c1 c2 c3 c4 c5=>TotP.cond (fun _=>j6 _ _ _ _ _ _) (fun _=>j6 _ _ _ _ _ _);have j4:∀ v c1 c2 c3 c4,Any (fun N=>Jn N f v c1 c2 c3 c4):=fun v c1 c2 c3 c4=>TotP.cond (fun _=>j5 _ _ _ _ _ _) (fun _=>j5 _ _ _ _ _ _);have j3:∀ v c1 c2 c3,Any (fun N=>Jg N f v c1 c2 c3):=fun v c1 c2 c3=>TotP.cond (fun _=>j4 _ _ _ _ _) (fun _=>j4 _ _ _ _ _);have j2:∀ v c1 c2,Any (fun N=>Jk N f v c1 c2):=fun v c1 c2=>TotP.cond (fun _=>j3 _ _ _ _) (fun _=>j3 _ _ _ _);have j1:∀ v c1,Any (fun N=>Jr N f v c1):=fun v c1=>TotP.cond (fun _=>j2 _ _ _) (fun _=>j2 _ _ _);have j0:∀ c1,Any (fun N=>Ud N k f c1):=fun c1=>TotP.cond (fun _ => .ret trivial) (fun _=>TotP.bind (Qrg k) (fun v _=>TotP.cond (fun _=>j1 _ _) (fun _=>j1 _ _)));exact TotP.bind (Qhi f) (fun v _=>TotP.cond (fun _ => .ret trivial) (fun _=>TotP.cond (fun _=>j0 _) (fun _=>j0 _)))
structure Cd (B:Nat) (c:Qa):Prop where
 d:c.do'=1∨c.do'=2
 nm:c.m.Name.length≤70000
 da:c.m.Data.length≤70000
 ou:c.out.length≤B
theorem Cd.mono {B C:Nat} {c:Qa} (h:Cd B c) (hB:B≤C):Cd C c:=⟨h.d,h.nm,h.da,Mw h.ou hB⟩
theorem Cd.zero {B:Nat} {c:Qa} (h:Cd B c):Q5 .eql c.do' 0=false:=by
 have:=h.d;rw [Yk];exact decide_eq_false (by omega)
theorem Qiv {v:List UInt8} {n:Nat} (h:v.length=n+1):(!(Nat.beq v.length 0))=true:=by rw [h];rfl
section
variable {B:Nat} {c:Qa} (h:Cd B c) (hB:B≤10000000)
include h hB
theorem Qzf:TotP (fun N=>Y2 N c) (fun r=>Cd (B+70000) r.2):=by
 have hz:=h.zero;have hd:=h.d;have hn:=h.nm;have ha:=h.da;have ho:=h.ou;unfold Y2;rw [hz]
 repeat' first
  | exact TotP.ret ⟨hd,by (first | (simp only [Nc];omega) | (dsimp only;omega) | omega),by (first | (simp only [Nc];omega) | (dsimp only;omega) | omega),by (first | (simp only [Lu,Mf];omega) | (dsimp only;omega) | omega)⟩
  | refine TotP.cond (fun e=>absurd e Lm) (fun _=>?_)
  | refine TotP.bind (Qap _ 2 (by omega) (by omega)) (fun v hv=>TotP.chk (Qiv hv) (TotP.chk (by rw [Lx];omega) ?_))
  | refine TotP.chk (by rw [Lx];omega) ?_
  | refine TotP.cond (fun _=>?_) (fun _=>?_)
theorem Qy3:TotP (fun N=>Qs N c) (fun r=>Cd (B+70000) r.2):=by
 have hz:=h.zero;have hd:=h.d;have hn:=h.nm;have ha:=h.da;have ho:=h.ou;unfold Qs;rw [hz]
 repeat' first
  | exact TotP.ret ⟨hd,by (first | (simp only [Nc];omega) | (dsimp only;omega) | omega),by (first | (simp only [Nc];omega) | (dsimp only;omega) | omega),by (first | (simp only [Lu,Mf];omega) | (dsimp only;omega) | omega)⟩
  | refine TotP.cond (fun e=>absurd e Lm) (fun _=>?_)
  | refine TotP.bind (Qap _ 2 (by omega) (by omega)) (fun v hv=>TotP.chk (Qiv hv) (TotP.chk (by rw [Lx];omega) ?_))
  | refine TotP.chk (by rw [Lx];omega) ?_
  | refine TotP.cond (fun _=>?_) (fun _=>?_)
theorem Qsb:TotP (fun N=>Z8 N c) (fun r=>Cd (B+70000) r.2):=by
 have hz:=h.zero;have hd:=h.d;have hn:=h.nm;have ha:=h.da;have ho:=h.ou;unfold Z8;refine TotP.bind (Qhi _) (fun w _=>?_);rw [hz]
 repeat' first
  | exact TotP.ret ⟨hd,by (first | (simp only [Nc];omega) | (dsimp only;omega) | omega),by (first | (simp only [Nc];omega) | (dsimp only;omega) | omega),by (first | (simp only [Lu,Mf];omega) | (dsimp only;omega) | omega)⟩
  | refine TotP.cond (fun e=>absurd e Lm) (fun _=>?_)
  | refine TotP.bind (Qap _ 1 (by omega) (by omega)) (fun v hv=>TotP.chk (Qiv hv) (TotP.chk (by rw [Lx];omega) ?_))
  | refine TotP.chk (by rw [Lx];omega) ?_
  | refine TotP.cond (fun _=>?_) (fun _=>?_)
theorem Qvs:TotP (fun N=>Ye N c) (fun r=>Cd (B+70000) r.2):=by
 have hz:=h.zero;have hd:=h.d;have hn:=h.nm;have ha:=h.da;have ho:=h.ou;unfold Ye;rw [hz];refine TotP.cond (fun e=>absurd e Lm) (fun _=>?_)
 refine TotP.cond (fun _=>?_) (fun _ => .ret ⟨hd,by (first | (simp only [Nc];omega) | (dsimp only;omega) | omega),by (first | (simp only [Nc];omega) | (dsimp only;omega) | omega),by (first | (simp only [Lu,Mf];omega) | (dsimp only;omega) | omega)⟩)
 refine TotP.cond (fun _ => .ret ⟨hd,by (first | (simp only [Nc];omega) | (dsimp only;omega) | omega),by (first | (simp only [Nc];omega) | (dsimp only;omega) | omega),by (first | (simp only [Lu,Mf];omega) | (dsimp only;omega) | omega)⟩) (fun _=>?_)
 exact TotP.chk (by rw [Lx];omega) (.ret ⟨hd,by (first | (simp only [Nc];omega) | (dsimp only;omega) | omega),by (first | (simp only [Nc];omega) | (dsimp only;omega) | omega),by (first | (simp only [Lu,Mf];omega) | (dsimp only;omega) | omega)⟩)
end
section
variable {B:Nat} {c:Qa} (h:Cd B c) (hB:B≤1000000)
include h hB
attribute [local irreducible] Y2 Qs Z8 Ye
end
section
variable {B:Nat} {c:Qa} (h:Cd B c) (hB:B≤1000)
include h hB
attribute [local irreducible] Y2 Qs Z8 Ye
end
structure OkM (m:Wh):Prop where
 nm:m.Name.length≤70000
 da:m.Data.length≤70000
section
variable {m:Wh} (h:OkM m)
include h
theorem cd0 (d:Int) (hd:d=1∨d=2):Cd 0 ⟨d,m,[],false⟩:=⟨hd,h.nm,h.da,Ll 0⟩
end
theorem Qgm (k r:Int):TotP (fun N=>Xg N k r) (fun x=>x.1.length≤100):=by
 have h1:Any (fun N=>J8 N k):=by
  unfold J8
  repeat' first
   | exact TotP.ret trivial
   | refine TotP.cond (fun _=>?_) (fun _=>?_)
 unfold Xg;refine TotP.bind h1 (fun _ _=>?_)
 repeat' first
  | exact TotP.ret (by simp only [Nc,Lu];omega)
  | refine TotP.bind (Q97 _ _) (fun v hv=>?_)
  | refine TotP.chk (by rw [Lx];(first | omega | (simp only [Lu];omega))) ?_
  | refine TotP.cond (fun _=>?_) (fun _=>?_)
section
variable {m:Wh} (h:OkM m)
include h
end
structure Qz1 (d:Qm):Prop where
 hops:d.Hops.length≤30
 node:∀ x∈d.Hops,x.Node.length≤300
 msg:OkM d.Msg
section
variable {d:Qm} (h:Qz1 d) (l:X2)
include h
theorem Qmg (v:List UInt8×Int) (hv:v.1.length≤800000):Any (fun N=>Xs N d l v N [] 0):=by
 have hc:=h.hops;refine Q6n (L:=fun N n (q:List UInt8×Int)=>Xs N d l v n q.1 q.2) (Q:=fun _=>True) (fun q=>∃ i:Nat,q.2=(i:Int)∧i≤d.Hops.length∧q.1.length≤i * 400) (fun q=>d.Hops.length - q.2.toNat) ?_ ([],0) ⟨0,rfl,by omega,by simp⟩
 rintro ⟨o,s⟩ ⟨i,hs,hi,hl⟩
 simp only at hs hl
 subst hs;show Stp _ _ _ (fun N n=>cond (Q5 .lss (i:Int) ((Q9 V0.cells d.Hops).length:Int)) _ _);rw [Q6,Qq];dsimp only;refine Stp.cond (fun hx=>?_) (fun _=>Stp.cond (fun _=>Stp.ret trivial) (fun _=>Stp.chk (by rw [Lx];omega) (Stp.ret trivial)));have hx:=of_decide_eq_true hx
 have hi:i<d.Hops.length:=by omega
 refine Stp.idx (Zg hi) ?_;have hf:=h.node _ (Mj hi);generalize d.Hops[i]=y at hf
 have e1:wrap .i64 ((i:Int)+1)=((i+1:Nat):Int):=by rw [w64 _ (by omega)];omega
 refine Stp.bind (Qix y hf) (fun w hw=>?_);refine Stp.chk (by rw [Lx];omega) ?_;rw [e1];exact Stp.go (L:=fun N n (q:List UInt8×Int)=>Xs N d l v n q.1 q.2) (o++w,((i+1:Nat):Int)) ⟨⟨i+1,rfl,by omega,by simp only [Lu];omega⟩,by simp only [Lw];omega⟩
theorem Qep (v:List UInt8×Int) (hv:v.1.length≤800000):Any (fun N=>Zk N d l v N [] 0):=by
 have hc:=h.hops;refine Q6n (L:=fun N n (q:List UInt8×Int)=>Zk N d l v n q.1 q.2) (Q:=fun _=>True) (fun q=>∃ i:Nat,q.2=(i:Int)∧i≤d.Hops.length∧q.1.length≤i * 400) (fun q=>d.Hops.length - q.2.toNat) ?_ ([],0) ⟨0,rfl,by omega,by simp⟩
 rintro ⟨o,s⟩ ⟨i,hs,hi,hl⟩
 simp only at hs hl
 subst hs;show Stp _ _ _ (fun N n=>cond (Q5 .lss (i:Int) ((Q9 V0.cells d.Hops).length:Int)) _ _);rw [Q6,Qq];dsimp only;refine Stp.cond (fun hx=>?_) (fun _=>Stp.cond (fun _=>Stp.ret trivial) (fun _=>Stp.chk (by rw [Lx];omega) (Stp.ret trivial)));have hx:=of_decide_eq_true hx
 have hi:i<d.Hops.length:=by omega
 refine Stp.idx (Zg hi) ?_;have hf:=h.node _ (Mj hi);generalize d.Hops[i]=y at hf
 have e1:wrap .i64 ((i:Int)+1)=((i+1:Nat):Int):=by rw [w64 _ (by omega)];omega
 refine Stp.bind (Qix y hf) (fun w hw=>?_);refine Stp.chk (by rw [Lx];omega) ?_;rw [e1];exact Stp.go (L:=fun N n (q:List UInt8×Int)=>Zk N d l v n q.1 q.2) (o++w,((i+1:Nat):Int)) ⟨⟨i+1,rfl,by omega,by simp only [Lu];omega⟩,by simp only [Lw];omega⟩
end
end
end Go.Av
namespace Go.Av
noncomputable section
structure LE (e:Qc):Prop where
 topic:e.Topic.length≤2000
 payload:e.Payload.length≤2000
 props:OkP e.Props
 pk:Qqt e.Packet
 dg:Qz1 ⟨e.Hops,e.Msg⟩
 fb:FB e.Frame
theorem Q5t (N:Nat) (s:List Zq) (h:s.length≤100000):Gr N s=some s:=by
 unfold Gr
 cases s with
 | nil=>rfl
 | cons x s=>
  have e:Nat.beq (x::s).length 0=false:=rfl
  have e2:Nat.ble ((0+(x::s).length+4096) * 48) 17592186044416=true:=by rw [Lx];omega
  rw [e,e2];rfl
theorem Qiw (N:Nat) (s:List V0) (h:s.length≤100000):Gk N s=some s:=by
 unfold Gk
 cases s with
 | nil=>rfl
 | cons x s=>
  have e:Nat.beq (x::s).length 0=false:=rfl
  have e2:Nat.ble ((0+(x::s).length+4096) * 24) 17592186044416=true:=by rw [Lx];omega
  rw [e,e2];rfl
theorem Qiy (N:Nat) (s:List Int) (h:s.length≤100000):Q4k N s=some s:=by
 unfold Q4k
 cases s with
 | nil=>rfl
 | cons x s=>
  have e:Nat.beq (x::s).length 0=false:=rfl
  have e2:Nat.ble ((0+(x::s).length+4096) * 8) 17592186044416=true:=by rw [Lx];omega
  rw [e,e2];rfl
theorem Qdm (N:Nat) (s:List Zb) (h:s.length≤100000):Q1a N s=some s:=by
 unfold Q1a
 cases s with
 | nil=>rfl
 | cons x s=>
  have e:Nat.beq (x::s).length 0=false:=rfl
  have e2:Nat.ble ((0+(x::s).length+4096) * 40) 17592186044416=true:=by rw [Lx];omega
  rw [e,e2];rfl
theorem Qj4 (N:Nat) (p:Ql) (h:Qqt p):Q2e N p=some p:=by
 have h1:=h.codes;have h2:=h.filters.1;have h3:=h.props.len;have h4:=h.wprops.len;unfold Q2e;rw [Qiy N _ (by omega),Qdm N _ (by omega),Q5t N _ (by omega),Q5t N _ (by omega)];rfl
end
end Go.Av
namespace Go.Av
noncomputable section
structure Z5w (a:Qc):Prop where
 props:a.Props.length≤maxLen
 hops:a.Hops.length≤maxLen
 pk:Quf a.Packet
 fr:Q2.szs a.Frame.Values<700000000
structure PubT (e:Qc) (c t b:Bool):Prop where
 known:e.Proto=1∨e.Proto=2∨e.Proto=3∨e.Proto=4
 kind:e.Kind=1
 qos:(0≤e.QoS∧e.QoS≤2)∨(e.Proto=3∧e.QoS = -1)
 id:0≤e.ID∧e.ID≤65535
 cid:c=decide (e.ID≠0)
 dup:e.Dup=true→c=true∨e.Proto=3
 props:0<e.Props.length→e.Proto=2
 ty:e.Proto=3→t=true
 ty2:e.Proto≠3→e.Type'=0∧e.Hops.length=0
 ch:0≤e.Channel∧e.Channel≤65535
 ch4:e.Channel≠0→e.Proto=4
 bare:b=true
theorem Q59 {b:Bool} {x y:Option Int} {r:Option Int} (h1:x=r) (h2:y=r):cond b x y=r:=by cases b<;>assumption
theorem Q25 {b:Bool} {x y:Option Int} {r:Option Int} (h1:b=true→x=r) (h2:b=false→y=r):cond b x y=r:=by
 cases b with
 | true=>exact h1 rfl
 | false=>exact h2 rfl
section
variable {N:Nat} {e:Qc} {t b:Bool} {v:Int} (hn:Yq N e.Topic=some true) (ht:Vz N e=some t) (hb:Vx N e=some b) (hv:Xc N 3 e.Props=some v)
include hn ht hb hv
theorem Qu4 (c:Bool) (h:¬ PubT e c t b):Zj N e c=some 2:=by
 simp only [Zj,Xv,Xb,W1,W0,Xy,Q7u,hn,ht,hb,hv,Qb2,Lh,Yk,Y8,W9,Q6]
 by_cases h1:e.Proto=1∨e.Proto=2∨e.Proto=3∨e.Proto=4
 case neg=>
  have d0:decide (e.Proto=1∨e.Proto=2∨e.Proto=3∨e.Proto=4)=false:=decide_eq_false h1;simp only [d0,Me,Mi,cond_true,cond_false,beq_self_eq_true,Nw,Lj]
  repeat' first | refine Q59 ?_ ?_ | exact rfl
 by_cases h2:e.Kind=1
 case neg=>
  have d0:decide (e.Kind≠1)=true:=decide_eq_true h2;simp only [d0,Me,Mi,cond_true,cond_false,beq_self_eq_true,Nw,Lj]
  repeat' first | refine Q59 ?_ ?_ | exact rfl
 by_cases h3:(0≤e.QoS∧e.QoS≤2)∨(e.Proto=3∧e.QoS = -1)
 case neg=>
  have d0:(decide (0≤e.QoS)&&decide (e.QoS≤2))=false:=by
   rw [show (decide (0≤e.QoS)&&decide (e.QoS≤2))=decide (0≤e.QoS∧e.QoS≤2) by simp];exact decide_eq_false (by omega)
  by_cases p:e.Proto=3
  ·have d1:decide (e.QoS = -1)=false:=decide_eq_false (by omega);simp only [d0,d1,Me,Mi,cond_true,cond_false]
   repeat' first | refine Q59 ?_ ?_ | exact rfl
  have d1:decide (e.Proto=3)=false:=decide_eq_false p;simp only [d0,d1,Me,Mi,cond_true,cond_false]
  repeat' first | refine Q59 ?_ ?_ | exact rfl
 by_cases h4:0≤e.ID∧e.ID≤65535
 case neg=>
  have d0:(decide (0≤e.ID)&&decide (e.ID≤65535))=false:=by
   rw [show (decide (0≤e.ID)&&decide (e.ID≤65535))=decide (0≤e.ID∧e.ID≤65535) by simp];exact decide_eq_false h4
  simp only [d0,Me,Mi,cond_true,cond_false]
  repeat' first | refine Q59 ?_ ?_ | exact rfl
 by_cases h5:c=decide (e.ID≠0)
 case neg=>
  have d0:(c == decide (e.ID≠0))=false:=by simpa using h5
  simp only [d0,Me,Mi,cond_true,cond_false]
  repeat' first | refine Q59 ?_ ?_ | exact rfl
 by_cases h6:e.Dup=true→c=true∨e.Proto=3
 case neg=>
  have d0:e.Dup=true:=by
   cases hd:e.Dup with
   | true=>rfl
   | false=>exact absurd (fun q=>absurd (hd.symm.trans q) (by simp)) h6
  have d1:c=false:=by
   cases hc:c with
   | false=>rfl
   | true=>exact absurd (fun _ => .inl hc) h6
  have d2:decide (e.Proto=3)=false:=decide_eq_false (fun q=>h6 (fun _ => .inr q));simp only [d0,d1,d2,Me,Mi,cond_true,cond_false]
  repeat' first | refine Q59 ?_ ?_ | exact rfl
 by_cases h7:0<e.Props.length→e.Proto=2
 case neg=>
  have d0:decide ((e.Props.length:Int)>0)=true:=decide_eq_true (by omega);have d1:decide (e.Proto≠2)=true:=decide_eq_true (by omega);simp only [d0,d1,Me,Mi,cond_true,cond_false]
  repeat' first | refine Q59 ?_ ?_ | exact rfl
 by_cases h8:e.Proto=3→t=true
 case neg=>
  have d0:decide (e.Proto=3)=true:=decide_eq_true (by
   by_cases q:e.Proto=3
   ·exact q
   exact absurd (fun r=>absurd r q) h8)
  have d1:t=false:=by
   cases hc:t with
   | false=>rfl
   | true=>exact absurd (fun _=>hc) h8
  simp only [d0,d1,Me,Mi,cond_true,cond_false]
  repeat' first | refine Q59 ?_ ?_ | exact rfl
 by_cases h9:e.Proto≠3→e.Type'=0∧e.Hops.length=0
 case neg=>
  have d0:decide (e.Proto=3)=false:=decide_eq_false (by omega)
  by_cases q:e.Type'=0
  ·have d1:decide ((e.Hops.length:Int)>0)=true:=decide_eq_true (by omega);simp only [d0,d1,Me,Mi,cond_true,cond_false]
   repeat' first | refine Q59 ?_ ?_ | exact rfl
  have d1:decide (e.Type'≠0)=true:=decide_eq_true q;simp only [d0,d1,Me,Mi,cond_true,cond_false]
  repeat' first | refine Q59 ?_ ?_ | exact rfl
 by_cases h10:0≤e.Channel∧e.Channel≤65535
 case neg=>
  have d0:(decide (0≤e.Channel)&&decide (e.Channel≤65535))=false:=by
   rw [show (decide (0≤e.Channel)&&decide (e.Channel≤65535))=decide (0≤e.Channel∧e.Channel≤65535) by simp];exact decide_eq_false h10
  simp only [d0,Me,Mi,cond_true,cond_false]
  repeat' first | refine Q59 ?_ ?_ | exact rfl
 by_cases h11:e.Channel≠0→e.Proto=4
 case neg=>
  have d0:decide (e.Channel≠0)=true:=decide_eq_true (by omega);have d1:decide (e.Proto≠4)=true:=decide_eq_true (by omega);simp only [d0,d1,Me,Mi,cond_true,cond_false]
  repeat' first | refine Q59 ?_ ?_ | exact rfl
 have d0:b=false:=by
  cases hc:b with
  | false=>rfl
  | true=>exact absurd ⟨h1,h2,h3,h4,h5,h6,h7,h8,h9,h10,h11,hc⟩ h
 simp only [d0,Me,Mi,cond_true,cond_false]
 repeat' first | refine Q59 ?_ ?_ | exact rfl
theorem Qqq (c:Bool) (h:PubT e c t b) (h0:v=0):Zj N e c=some 0:=by
 subst h0;obtain ⟨h1,h2,h3,h4,h5,h6,h7,h8,h9,h10,h11,h12⟩:=h;simp only [Zj,Xv,Xb,W1,W0,Xy,Q7u,hn,ht,hb,hv,Qb2,Lh,Yk,Y8,W9,Q6];have d1:decide (e.Proto=1∨e.Proto=2∨e.Proto=3∨e.Proto=4)=true:=decide_eq_true h1;have d2:decide (e.Kind≠1)=false:=decide_eq_false (by omega)
 have d4:(decide (0≤e.ID)&&decide (e.ID≤65535))=true:=by simp;omega
 have d5:(c == decide (e.ID≠0))=true:=by rw [h5];simp
 have d10:(decide (0≤e.Channel)&&decide (e.Channel≤65535))=true:=by simp;omega
 have dz:decide ((0:Int)≠0)=false:=rfl;simp only [d1,d2,d4,d5,d10,h12,dz,Me,Mi,cond_true,cond_false];clear h5 d5 d1 d2 d4 d10 dz hn ht hb hv
 have nq:∀ {x:Bool},(!x)=true→x=false:=fun {x} h=>by cases x;rfl;cases h
 have nr:∀ {x:Bool},(!x)=false→x=true:=fun {x} h=>by cases x;cases h;rfl
 have h6':e.Dup=true→c=false→e.Proto=3:=fun a b=>by
  rcases h6 a with h | h
  ·rw [b] at h;cases h
  exact h
 by_cases p3:e.Proto=3
 ·have t1:=h8 p3;have a1:decide (e.Proto=3)=true:=decide_eq_true p3;have a2:decide ((e.Props.length:Int)>0)=false:=decide_eq_false (by omega);have a3:decide (e.Channel≠0)=false:=decide_eq_false (by omega);simp only [a1,a2,a3,t1,Me,Mi,cond_true,cond_false];refine Q25 (fun g=>?_) (fun g=>?_)
  ·have g:=nq g
   have a4:decide (e.QoS = -1)=true:=decide_eq_true (by
    rw [show (decide (0≤e.QoS)&&decide (e.QoS≤2))=decide (0≤e.QoS∧e.QoS≤2) by simp] at g
    have:=of_decide_eq_false g;omega)
   simp only [a4,Me,Mi,cond_true,cond_false]
   repeat' first | refine Q59 ?_ ?_ | exact rfl
  repeat' first | refine Q59 ?_ ?_ | exact rfl
 have t1:=h9 p3;have a1:decide (e.Proto=3)=false:=decide_eq_false p3
 have a2:(decide (0≤e.QoS)&&decide (e.QoS≤2))=true:=by simp;omega
 have a3:decide (e.Type'≠0)=false:=decide_eq_false (by omega);have a4:decide ((e.Hops.length:Int)>0)=false:=decide_eq_false (by omega);simp only [a1,a2,a3,a4,Me,Mi,cond_true,cond_false]
 have P:∀ {x y:Option Int},x=some 0→(cond (decide ((e.Props.length:Int)>0)) (cond (decide (e.Proto≠2)) (some 2) x) y)=y∨(cond (decide ((e.Props.length:Int)>0)) (cond (decide (e.Proto≠2)) (some 2) x) y)=x:=fun {x y} hx=>by
  by_cases q:0<e.Props.length
  ·right;rw [decide_eq_true (show (e.Props.length:Int)>0 by omega),decide_eq_false (show ¬ e.Proto≠2 by have:=h7 q;omega)];rfl
  left;rw [decide_eq_false (show ¬ (e.Props.length:Int)>0 by omega)];rfl
 have C:∀ {x y:Option Int},x=some 0→y=some 0→(cond (decide (e.Channel≠0)) (cond (decide (e.Proto≠4)) (some 2) x) y)=some 0:=fun {x y} hx hy=>by
  by_cases q:e.Channel=0
  ·rw [decide_eq_false (by omega)];exact hy
  rw [decide_eq_true q,decide_eq_false (show ¬ e.Proto≠4 by have:=h11 q;omega)];exact hx
 have P':∀ {x y:Option Int},x=some 0→y=some 0→(cond (decide ((e.Props.length:Int)>0)) (cond (decide (e.Proto≠2)) (some 2) x) y)=some 0:=fun {x y} hx hy=>by
  rcases P (x:=x) (y:=y) hx with h | h
  ·rw [h];exact hy
  rw [h];exact hx
 refine Q25 (fun g=>?_) (fun g=>?_)
 ·refine Q25 (fun g2=>?_) (fun g2=>?_)
  ·exact absurd (h6' g (nq g2)) p3
  exact P' (C rfl rfl) (C rfl rfl)
 exact P' (C rfl rfl) (C rfl rfl)
end
end
end Go.Av
namespace Go.Av
noncomputable section
section
variable {R S T A:Type}
theorem TotP.succ {f g:Nat→Option R} {Q:R→Prop} (e:∀ N,f (N+1)=g N) (h:TotP g Q):TotP f Q:=by
 obtain ⟨r,hr,N0,hN⟩:=h;refine ⟨r,hr,N0+1,fun N h=>?_⟩;obtain ⟨M,rfl⟩:∃ M,N=M+1:=⟨N - 1,by omega⟩;rw [e];exact hN M (by omega)
end
end
end Go.Av
namespace Go.Av
noncomputable section
end
end Go.Av
namespace Go.Av
noncomputable section
def sh1 (e:Qc):Qc:=⟨e.Proto,e.Kind,[],[],0,false,false,0,[],0,[],0,e.Packet,(⟨0,(⟨false,0,false,false,false,0⟩:Qp),0,0,0,false,0,0,0,[],[]⟩:Wh),(⟨0,0,[],[]⟩:Zi)⟩
def sh3 (e:Qc):Qc:=⟨e.Proto,e.Kind,[],[],0,false,false,0,[],0,e.Hops,0,(⟨0,false,false,0,0,[],[],false,0,[],false,[],false,[],false,(⟨[],[],0,false,[]⟩:Wj),false,0,[],[],[]⟩:Ql),e.Msg,(⟨0,0,[],[]⟩:Zi)⟩
def sh4 (e:Qc):Qc:=⟨e.Proto,e.Kind,[],[],0,false,false,0,[],0,[],0,(⟨0,false,false,0,0,[],[],false,0,[],false,[],false,[],false,(⟨[],[],0,false,[]⟩:Wj),false,0,[],[],[]⟩:Ql),(⟨0,(⟨false,0,false,false,false,0⟩:Qp),0,0,0,false,0,0,0,[],[]⟩:Wh),e.Frame⟩
structure Oth (e:Qc) (c:Int):Prop where
 a:e.Proto=1∨e.Proto=2→(c=0→sh1 e=e)∧(sh1 e≠e→c=2)∧(e.Packet.Kind=0→c≠0)
 b:e.Proto=3→(c=0→sh3 e=e)∧(sh3 e≠e→c=2)
 d:e.Proto=4→(c=0→sh4 e=e)∧(sh4 e≠e→c=2)
 f:c=0→e.Proto=1∨e.Proto=2∨e.Proto=3∨e.Proto=4
structure At (e:Qc) (l:X2) (t b r:Bool) (v:Int):Prop where
 t:Tot (fun N=>Vz N e) t
 b:Tot (fun N=>Vx N e) b
 v:Tot (fun N=>Xc N 3 e.Props) v
 r:Tot (fun N=>Q23 N l) r
def cq (e:Qc):Bool:=cond (decide (e.QoS=1)) true (decide (e.QoS=2))
structure Ck (e:Qc) (l:X2) (t b r:Bool) (v c:Int):Prop where
 zero:c=0→r=true
 pub0:e.Kind=1→c=0→Jd e.Topic=true∧v=0∧PubT e (cq e) t b∧(e.Payload.length:Int)≤l.MaxPacket
 pub1:e.Kind=1→r=true→Jd e.Topic=true→v=0→PubT e (cq e) t b→(e.Payload.length:Int)≤l.MaxPacket→c=0
 pub2:e.Kind=1→r=true→Jd e.Topic=true→¬ PubT e (cq e) t b→c=2
 oth:e.Kind=2→r=true→Oth e c
 no:c=0→e.Kind=1∨e.Kind=2
theorem Qo4 (N:Nat) (e:Qc):Y7 N e=Zj N e (cq e):=by
 unfold Y7 cq;rw [Yk,Yk];cases decide (e.QoS=1)<;>rfl
end
end Go.Av
namespace Go.Av
noncomputable section
theorem Q5p (a b:List Zq) (ha:a.length≤maxLen):TotP (fun N=>X9 N a b) (fun v=>v=true↔a=b):=by
 unfold X9;rw [Q6,Q6,Y8];refine TotP.cond (fun h => .ret ⟨fun h=>(by cases h),fun e=>?_⟩) (fun h=>?_)
 ·have:=of_decide_eq_true h;subst e;exact absurd rfl this
 have h:=of_decide_eq_false h
 have hab:a.length=b.length:=by omega
 refine Qd0 (L:=fun N n i=>X0 N a b n i) (eq:=fun x y=>((x.ID:Int) == y.ID)&&(((x.N':Int) == y.N')&&(((x.Text:List UInt8) == y.Text)&&(((x.Value:List UInt8) == y.Value)&&true)))) (fun _ _=>Qy0) hab ha (fun N n i h h'=>?_) (fun N n=>?_)
 ·show cond (Q5 .lss (i:Int) ((Q9 Zq.cells a).length:Int)) ((idx a (i:Int)).bind _) _=_;rw [Q6,Qq,decide_eq_true (by omega),Zg h,Zg h'];rfl
 show cond (Q5 .lss (a.length:Int) ((Q9 Zq.cells a).length:Int)) _ _=_;rw [Q6,Qq,decide_eq_false (by omega)];rfl
theorem Qjp (a b:List V0) (ha:a.length≤maxLen):TotP (fun N=>V1 N a b) (fun v=>v=true↔a=b):=by
 unfold V1;rw [Q6,Q6,Y8];refine TotP.cond (fun h => .ret ⟨fun h=>(by cases h),fun e=>?_⟩) (fun h=>?_)
 ·have:=of_decide_eq_true h;subst e;exact absurd rfl this
 have h:=of_decide_eq_false h
 have hab:a.length=b.length:=by omega
 refine Qd0 (L:=fun N n i=>X6 N a b n i) (eq:=fun x y=>((x.Radius:Int) == y.Radius)&&(((x.Node:List UInt8) == y.Node)&&true)) (fun _ _=>Zdg) hab ha (fun N n i h h'=>?_) (fun N n=>?_)
 ·show cond (Q5 .lss (i:Int) ((Q9 V0.cells a).length:Int)) ((idx a (i:Int)).bind _) _=_;rw [Q6,Qq,decide_eq_true (by omega),Zg h,Zg h'];rfl
 show cond (Q5 .lss (a.length:Int) ((Q9 V0.cells a).length:Int)) _ _=_;rw [Q6,Qq,decide_eq_false (by omega)];rfl
theorem Qde (a b:List Zb) (ha:a.length≤maxLen):TotP (fun N=>Xx N a b) (fun v=>v=true↔a=b):=by
 unfold Xx;rw [Q6,Q6,Y8];refine TotP.cond (fun h => .ret ⟨fun h=>(by cases h),fun e=>?_⟩) (fun h=>?_)
 ·have:=of_decide_eq_true h;subst e;exact absurd rfl this
 have h:=of_decide_eq_false h
 have hab:a.length=b.length:=by omega
 refine Qd0 (L:=fun N n i=>Yg N a b n i) (eq:=fun x y=>((x.Topic:List UInt8) == y.Topic)&&(((x.QoS:Int) == y.QoS)&&(((x.NoLocal:Bool) == y.NoLocal)&&(((x.AsPublished:Bool) == y.AsPublished)&&(((x.Handling:Int) == y.Handling)&&true))))) (fun _ _=>Qpb) hab ha (fun N n i h h'=>?_) (fun N n=>?_)
 ·show cond (Q5 .lss (i:Int) ((Q9 Zb.cells a).length:Int)) ((idx a (i:Int)).bind _) _=_;rw [Q6,Qq,decide_eq_true (by omega),Zg h,Zg h'];rfl
 show cond (Q5 .lss (a.length:Int) ((Q9 Zb.cells a).length:Int)) _ _=_;rw [Q6,Qq,decide_eq_false (by omega)];rfl
theorem Qj9 (a b:List Int) (ha:a.length≤maxLen):TotP (fun N=>V5 N a b) (fun v=>v=true↔a=b):=by
 unfold V5;rw [Q6,Q6,Y8];refine TotP.cond (fun h => .ret ⟨fun h=>(by cases h),fun e=>?_⟩) (fun h=>?_)
 ·have:=of_decide_eq_true h;subst e;exact absurd rfl this
 have h:=of_decide_eq_false h
 have hab:a.length=b.length:=by omega
 refine Qd0 (L:=fun N n i=>X4 N a b n i) (eq:=fun x y=>Q5 .eql x y) (fun x y=>by rw [Yk];exact decide_eq_true_iff) hab ha (fun N n i h h'=>?_) (fun N n=>?_)
 ·show cond (Q5 .lss (i:Int) ((Q9 (cI .i64) a).length:Int)) ((idx a (i:Int)).bind _) _=_;rw [Q6,Qq,decide_eq_true (by omega),Zg h,Zg h'];simp only [Lh,cond_true,Y8,Yk,decide_not]
 show cond (Q5 .lss (a.length:Int) ((Q9 (cI .i64) a).length:Int)) _ _=_;rw [Q6,Qq,decide_eq_false (by omega)];rfl
theorem Q9w (a b:Ql) (h:Quf a):TotP (fun N=>W3 N a b) (fun v=>v=true↔a=b):=by
 unfold W3;simp only [Y8,Qr1];refine TotP.cond (fun g => .ret ⟨fun e=>absurd e Lm,fun e=>absurd g (by rw [e];simp)⟩) (fun g=>?_)
 have e0:a.Will.Topic=b.Will.Topic:=by simpa using g
 clear g;refine TotP.cond (fun g => .ret ⟨fun e=>absurd e Lm,fun e=>absurd g (by rw [e];simp)⟩) (fun g=>?_)
 have e1:a.Will.Payload=b.Will.Payload:=by simpa using g
 clear g;refine TotP.cond (fun g => .ret ⟨fun e=>absurd e Lm,fun e=>absurd g (by rw [e];simp)⟩) (fun g=>?_)
 have e2:a.Will.QoS=b.Will.QoS:=by simpa using g
 clear g;refine TotP.cond (fun g => .ret ⟨fun e=>absurd e Lm,fun e=>absurd g (by rw [e];simp)⟩) (fun g=>?_)
 have e3:a.Will.Retain=b.Will.Retain:=by simpa using g
 clear g;refine TotP.bind (Q5p _ _ h.wprops) (fun v hv=>?_);refine TotP.cond (fun g => .ret ⟨fun e=>absurd e Lm,fun e=>absurd (hv.2 (by rw [e])) (by simpa using g)⟩) (fun g=>?_);have e4:a.Will.Props=b.Will.Props:=hv.1 (by simpa using g);clear g hv;refine TotP.cond (fun g => .ret ⟨fun e=>absurd e Lm,fun e=>absurd g (by rw [e];simp)⟩) (fun g=>?_)
 have e5:a.Kind=b.Kind:=by simpa using g
 clear g;refine TotP.cond (fun g => .ret ⟨fun e=>absurd e Lm,fun e=>absurd g (by rw [e];simp)⟩) (fun g=>?_)
 have e6:a.Dup=b.Dup:=by simpa using g
 clear g;refine TotP.cond (fun g => .ret ⟨fun e=>absurd e Lm,fun e=>absurd g (by rw [e];simp)⟩) (fun g=>?_)
 have e7:a.Retain=b.Retain:=by simpa using g
 clear g;refine TotP.cond (fun g => .ret ⟨fun e=>absurd e Lm,fun e=>absurd g (by rw [e];simp)⟩) (fun g=>?_)
 have e8:a.QoS=b.QoS:=by simpa using g
 clear g;refine TotP.cond (fun g => .ret ⟨fun e=>absurd e Lm,fun e=>absurd g (by rw [e];simp)⟩) (fun g=>?_)
 have e9:a.ID=b.ID:=by simpa using g
 clear g;refine TotP.cond (fun g => .ret ⟨fun e=>absurd e Lm,fun e=>absurd g (by rw [e];simp)⟩) (fun g=>?_)
 have e10:a.Topic=b.Topic:=by simpa using g
 clear g;refine TotP.cond (fun g => .ret ⟨fun e=>absurd e Lm,fun e=>absurd g (by rw [e];simp)⟩) (fun g=>?_)
 have e11:a.Payload=b.Payload:=by simpa using g
 clear g;refine TotP.cond (fun g => .ret ⟨fun e=>absurd e Lm,fun e=>absurd g (by rw [e];simp)⟩) (fun g=>?_)
 have e12:a.Clean=b.Clean:=by simpa using g
 clear g;refine TotP.cond (fun g => .ret ⟨fun e=>absurd e Lm,fun e=>absurd g (by rw [e];simp)⟩) (fun g=>?_)
 have e13:a.KeepAlive=b.KeepAlive:=by simpa using g
 clear g;refine TotP.cond (fun g => .ret ⟨fun e=>absurd e Lm,fun e=>absurd g (by rw [e];simp)⟩) (fun g=>?_)
 have e14:a.Client=b.Client:=by simpa using g
 clear g;refine TotP.cond (fun g => .ret ⟨fun e=>absurd e Lm,fun e=>absurd g (by rw [e];simp)⟩) (fun g=>?_)
 have e15:a.HasUser=b.HasUser:=by simpa using g
 clear g;refine TotP.cond (fun g => .ret ⟨fun e=>absurd e Lm,fun e=>absurd g (by rw [e];simp)⟩) (fun g=>?_)
 have e16:a.User=b.User:=by simpa using g
 clear g;refine TotP.cond (fun g => .ret ⟨fun e=>absurd e Lm,fun e=>absurd g (by rw [e];simp)⟩) (fun g=>?_)
 have e17:a.HasPass=b.HasPass:=by simpa using g
 clear g;refine TotP.cond (fun g => .ret ⟨fun e=>absurd e Lm,fun e=>absurd g (by rw [e];simp)⟩) (fun g=>?_)
 have e18:a.Pass=b.Pass:=by simpa using g
 clear g;refine TotP.cond (fun g => .ret ⟨fun e=>absurd e Lm,fun e=>absurd g (by rw [e];simp)⟩) (fun g=>?_)
 have e19:a.HasWill=b.HasWill:=by simpa using g
 clear g;refine TotP.cond (fun g => .ret ⟨fun e=>absurd e Lm,fun e=>absurd g (by rw [e];simp)⟩) (fun g=>?_)
 have e20:a.Session=b.Session:=by simpa using g
 clear g;refine TotP.cond (fun g => .ret ⟨fun e=>absurd e Lm,fun e=>absurd g (by rw [e];simp)⟩) (fun g=>?_)
 have e21:a.Code=b.Code:=by simpa using g
 clear g;refine TotP.bind (Qj9 _ _ h.codes) (fun v hv=>?_);refine TotP.cond (fun g=>?_) (fun g => .ret ⟨fun e=>absurd e Lm,fun e=>absurd (hv.2 (by rw [e])) (by rw [g];decide)⟩);have e22:a.Codes=b.Codes:=hv.1 g;clear g hv;refine TotP.bind (Qde _ _ h.filters) (fun v hv=>?_);refine TotP.cond (fun g=>?_) (fun g => .ret ⟨fun e=>absurd e Lm,fun e=>absurd (hv.2 (by rw [e])) (by rw [g];decide)⟩);have e23:a.Filters=b.Filters:=hv.1 g;clear g hv;refine TotP.bind (Q5p _ _ h.props) (fun v hv => .ret ⟨fun g=>?_,fun e=>hv.2 (by rw [e])⟩);have el:a.Props=b.Props:=hv.1 g;obtain ⟨a0,a1,a2,a3,a4,a5,a6,a7,a8,a9,a10,a11,a12,a13,a14,⟨w0,w1,w2,w3,w4⟩,a16,a17,a18,a19,a20⟩:=a;obtain ⟨b0,b1,b2,b3,b4,b5,b6,b7,b8,b9,b10,b11,b12,b13,b14,⟨x0,x1,x2,x3,x4⟩,b16,b17,b18,b19,b20⟩:=b
 simp_all
theorem Qna (x y:Wh):(((x.Type':Int) == y.Type')&&(((x.Flags.Dup:Bool) == y.Flags.Dup)&&(((x.Flags.QoS:Int) == y.Flags.QoS)&&(((x.Flags.Retain:Bool) == y.Flags.Retain)&&(((x.Flags.Will:Bool) == y.Flags.Will)&&(((x.Flags.Clean:Bool) == y.Flags.Clean)&&(((x.Flags.Type':Int) == y.Flags.Type')&&(((x.Gateway:Int) == y.Gateway)&&(((x.Radius:Int) == y.Radius)&&(((x.Time:Int) == y.Time)&&(((x.Timed:Bool) == y.Timed)&&(((x.TopicID:Int) == y.TopicID)&&(((x.MsgID:Int) == y.MsgID)&&(((x.Code:Int) == y.Code)&&(((x.Name:List UInt8) == y.Name)&&(((x.Data:List UInt8) == y.Data)&&true))))))))))))))))=true↔x=y:=by
 obtain ⟨a,⟨b,c,d,e,f,g⟩,h,i,j,k,l,m,n,o,p⟩:=x;obtain ⟨a',⟨b',c',d',e',f',g'⟩,h',i',j',k',l',m',n',o',p'⟩:=y;simp [and_assoc]
theorem Qg3 (a b:Qc) (h:Z5w a):TotP (fun N=>Qo N a b) (fun v=>v=true↔a=b):=by
 unfold Qo;simp only [Yk,Qfx];refine TotP.cond (fun g=>?_) (fun g => .ret ⟨fun e=>absurd e Lm,fun e=>absurd g (by rw [e];simp)⟩)
 have e24:a.Proto=b.Proto:=by simpa using g
 clear g;refine TotP.cond (fun g=>?_) (fun g => .ret ⟨fun e=>absurd e Lm,fun e=>absurd g (by rw [e];simp)⟩)
 have e25:a.Kind=b.Kind:=by simpa using g
 clear g;refine TotP.cond (fun g=>?_) (fun g => .ret ⟨fun e=>absurd e Lm,fun e=>absurd g (by rw [e];simp)⟩)
 have e26:a.Topic=b.Topic:=by simpa using g
 clear g;refine TotP.cond (fun g=>?_) (fun g => .ret ⟨fun e=>absurd e Lm,fun e=>absurd g (by rw [e];simp)⟩)
 have e27:a.Payload=b.Payload:=by simpa using g
 clear g;refine TotP.cond (fun g=>?_) (fun g => .ret ⟨fun e=>absurd e Lm,fun e=>absurd g (by rw [e];simp)⟩)
 have e28:a.QoS=b.QoS:=by simpa using g
 clear g;refine TotP.cond (fun g=>?_) (fun g => .ret ⟨fun e=>absurd e Lm,fun e=>absurd g (by rw [e];simp)⟩)
 have e29:a.Retain=b.Retain:=by simpa using g
 clear g;refine TotP.cond (fun g=>?_) (fun g => .ret ⟨fun e=>absurd e Lm,fun e=>absurd g (by rw [e];simp)⟩)
 have e30:a.Dup=b.Dup:=by simpa using g
 clear g;refine TotP.cond (fun g=>?_) (fun g => .ret ⟨fun e=>absurd e Lm,fun e=>absurd g (by rw [e];simp)⟩)
 have e31:a.ID=b.ID:=by simpa using g
 clear g;refine TotP.bind (Q5p _ _ h.props) (fun v hv=>?_);refine TotP.cond (fun g=>?_) (fun g => .ret ⟨fun e=>absurd e Lm,fun e=>absurd (hv.2 (by rw [e])) (by rw [g];decide)⟩);have e32:a.Props=b.Props:=hv.1 g;clear g hv;refine TotP.cond (fun g=>?_) (fun g => .ret ⟨fun e=>absurd e Lm,fun e=>absurd g (by rw [e];simp)⟩)
 have e33:a.Type'=b.Type':=by simpa using g
 clear g;refine TotP.bind (Qjp _ _ h.hops) (fun v hv=>?_);refine TotP.cond (fun g=>?_) (fun g => .ret ⟨fun e=>absurd e Lm,fun e=>absurd (hv.2 (by rw [e])) (by rw [g];decide)⟩);have e34:a.Hops=b.Hops:=hv.1 g;clear g hv;refine TotP.cond (fun g=>?_) (fun g => .ret ⟨fun e=>absurd e Lm,fun e=>absurd g (by rw [e];simp)⟩)
 have e35:a.Channel=b.Channel:=by simpa using g
 clear g;refine TotP.bind (Q9w _ _ h.pk) (fun v hv=>?_);refine TotP.cond (fun g=>?_) (fun g => .ret ⟨fun e=>absurd e Lm,fun e=>absurd (hv.2 (by rw [e])) (by rw [g];decide)⟩);have e36:a.Packet=b.Packet:=hv.1 g;clear g hv;refine TotP.cond (fun g=>?_) (fun g => .ret ⟨fun e=>absurd e Lm,fun e=>absurd ((Qna a.Msg b.Msg).2 (by rw [e])) (by rw [g];decide)⟩);have e37:a.Msg=b.Msg:=(Qna _ _).1 g;clear g;refine TotP.bind (V:=fun v=>v=true↔a.Frame=b.Frame) ⟨decide (a.Frame=b.Frame),decide_eq_true_iff,800000000,fun N hN=>Q9x hN _ _ h.fr⟩ (fun v hv => .ret ⟨fun g=>?_,fun e=>hv.2 (by rw [e])⟩);have el:a.Frame=b.Frame:=hv.1 g;cases a;cases b
 simp_all
end
end Go.Av
namespace Go.Av
noncomputable section
def zPk:Ql:=⟨0,false,false,0,0,[],[],false,0,[],false,[],false,[],false,(⟨[],[],0,false,[]⟩:Wj),false,0,[],[],[]⟩
def zMk:Wh:=⟨0,(⟨false,0,false,false,false,0⟩:Qp),0,0,0,false,0,0,0,[],[]⟩
def zFk:Zi:=⟨0,0,[],[]⟩
def zEk:Qc:=⟨0,0,[],[],0,false,false,0,[],0,[],0,zPk,zMk,zFk⟩
def Qkx (h:V0):Bool:=decide (0≤h.Radius∧h.Radius≤3∧1≤h.Node.length∧h.Node.length≤32)
def Q84 (l:List V0):Bool:=decide (l.length≤4)&&l.all Qkx
theorem Qk3 (N:Nat) (h:V0):Ug N h=some (Qkx h):=by
 unfold Ug Qkx;rw [Jh,G9,Jh,G9]
 by_cases h1:h.Radius≥0<;>by_cases h2:h.Radius≤3<;>by_cases h3:(h.Node.length:Int)≥1<;>by_cases h4:(h.Node.length:Int)≤32<;>simp [h1,h2,h3,h4]<;>omega
def Qig:Wh:=⟨23,(⟨false,0,false,false,false,0⟩:Qp),0,0,0,false,0,0,0,[],[]⟩
theorem Qzo (M:Nat):Xw (M+40) Qig=some ([2,23],0):=by rfl
section
variable (l:List V0) (hl:l.length≤30) (hn:∀ x∈l,x.Node.length≤300)
include hl hn
theorem Z04 (h4:l.length≤4):TotP (fun N=>Zk N ⟨l,Qig⟩ ⟨1048576,32⟩ ([2,23],0) N [] 0) (fun r=>r.2=0):=by
 refine Q6n (L:=fun N n (q:List UInt8×Int)=>Zk N ⟨l,Qig⟩ ⟨1048576,32⟩ ([2,23],0) n q.1 q.2) (fun q=>∃ i:Nat,q.2=(i:Int)∧i≤l.length∧q.1.length≤i * 400) (fun q=>l.length - q.2.toNat) ?_ ([],0) ⟨0,rfl,by omega,by simp⟩
 rintro ⟨o,s⟩ ⟨i,hs,hi,hq⟩
 simp only at hs hq
 subst hs;show Stp _ _ _ (fun N n=>cond (Q5 .lss (i:Int) ((Q9 V0.cells l).length:Int)) _ _);rw [Q6,Qq];dsimp only;refine Stp.cond (fun hx=>?_) (fun _=>?_)
 ·have hx:=of_decide_eq_true hx
  have hi:i<l.length:=by omega
  refine Stp.idx (Zg hi) ?_;have hf:=hn _ (Mj hi);generalize l[i]=y at hf
  have e1:wrap .i64 ((i:Int)+1)=((i+1:Nat):Int):=by rw [w64 _ (by omega)];omega
  refine Stp.bind (Qix y hf) (fun w hw=>?_);refine Stp.chk (by rw [Lx];omega) ?_;rw [e1];exact Stp.go (L:=fun N n (q:List UInt8×Int)=>Zk N ⟨l,Qig⟩ ⟨1048576,32⟩ ([2,23],0) n q.1 q.2) (o++w,((i+1:Nat):Int)) ⟨⟨i+1,rfl,by omega,by simp only [Lu];omega⟩,by simp only [Lw];omega⟩
 have e2:wrap .i64 ((o.length:Int)+2)=(o.length:Int)+2:=w64 _ (by omega);refine Stp.cond (fun h=>?_) (fun _=>?_)
 ·have h:wrap .i64 ((o.length:Int)+2)>1048576:=by rw [W9] at h;exact of_decide_eq_true h
  rw [e2] at h;omega
 exact Stp.chk (by rw [Lx];simp;omega) (Stp.ret rfl)
theorem Qkf:TotP (fun N=>Zv N ⟨l,Qig⟩ ⟨1048576,32⟩) (fun v=>decide (v=0)=Q84 l):=by
 unfold Zv J7;refine TotP.bind (V:=fun v=>decide (v.2=0)=Q84 l) ?_ (fun v hv => .ret hv);refine TotP.bindE (v:=true) (.of fun _=>rfl) ?_;refine TotP.cond (fun h=>by cases h) (fun _=>?_);show TotP (fun N=>cond (Q5 .gtr ((Q9 V0.cells l).length:Int) 4) _ _) _;rw [Q6,W9];refine TotP.cond (fun h => .ret ?_) (fun h4=>?_)
 ·have h:=of_decide_eq_true h;unfold Q84;rw [decide_eq_false (p:=l.length≤4) (by omega)];rfl
 have h4:l.length≤4:=by have:=of_decide_eq_false h4;omega
 have hb:Tot (fun N=>Xw N Qig) ([2,23],0):=⟨40,fun N hN=>by obtain ⟨M,rfl⟩:∃ M,N=M+40:=⟨N - 40,by omega⟩;exact Qzo M⟩
 have fin:(∀ x∈l,Qkx x=true)→TotP (fun N=>(Xw N Qig).bind fun v53=>cond (Q5 .neq v53.2 0) (some ([],v53.2)) (Zk N ⟨l,Qig⟩ ⟨1048576,32⟩ v53 N [] 0)) (fun v=>decide (v.2=0)=Q84 l):=fun hA=>by
  refine TotP.bindE hb ?_;refine TotP.cond (fun h=>by cases h) (fun _=>?_);refine (Z04 l hl hn h4).mono fun r hr=>?_;unfold Q84;rw [hr,decide_eq_true h4,Lp.2 hA];rfl
 refine Q5o (L:=fun N n i=>Y3 N ⟨l,Qig⟩ ⟨1048576,32⟩ n i) l.length (fun i=>∀ j (h:j<l.length),j<i→Qkx l[j]=true) (fun i hi hj=>?_) (fun hj=>?_) (fun j _ hj=>by omega)
 ·show Stp _ _ _ (fun N n=>cond (Q5 .lss (i:Int) ((Q9 V0.cells l).length:Int)) _ _);rw [Q6,Qq];refine Stp.cond (fun _=>?_) (fun h=>by have:=of_decide_eq_false h;omega);refine Stp.idx (Zg hi) ?_;refine Stp.bind (V:=fun v=>v = !(Qkx l[i])) ⟨_,rfl,.of fun N=>by unfold J4;rw [Qk3];rfl⟩ (fun v hv=>?_);refine Stp.cond (fun h=>?_) (fun h=>?_)
  ·refine Stp.cond (fun _=>Stp.ret ?_) (fun h2=>?_)
   ·rw [hv] at h
    have:l.all Qkx=false:=by
     rw [Bool.eq_false_iff];intro hA;have:=Lp.1 hA _ (Mj hi);rw [this] at h;cases h
    unfold Q84;rw [this];simp
   rw [Jh] at h2;exact absurd (of_decide_eq_false h2) (by omega)
  rw [w64 _ (by omega)];refine Stp.go (L:=fun N n i=>Y3 N ⟨l,Qig⟩ ⟨1048576,32⟩ n i) _ ⟨by omega,fun j hj' hji=>?_⟩
  by_cases e:j=i
  ·subst e;rw [hv] at h;simpa using h
  exact hj j hj' (by omega)
 show Stp _ _ _ (fun N n=>cond (Q5 .lss ((l.length:Nat):Int) ((Q9 V0.cells l).length:Int)) _ _);rw [Q6,Qq];refine Stp.cond (fun h=>by have:=of_decide_eq_true h;omega) (fun _=>Stp.fin (fin fun x hx=>?_));obtain ⟨j,hj',rfl⟩:=Bg hx;exact hj j hj' hj'
end
def Q5n (s:List UInt8):Bool:=decide (s.length=2)&&Jd s
def Qng (e:Qc):Bool:=decide (0≤e.Type'∧e.Type'≤2)&&((!(decide (e.Type'=2))||Q5n e.Topic)&&Q84 e.Hops)
theorem Zkm (s:List UInt8) (hs:s.length=2):TotP (fun N=>Uw N s) (fun _=>True):=by
 match s,hs with
 | [a,b],_=>exact ⟨_,trivial,3,fun N hN=>by
   obtain ⟨M,rfl⟩:∃ M,N=M+3:=⟨N - 3,by omega⟩
   rfl⟩
theorem nB {x:Bool} (h:(!x)=true):x=false:=by cases x;rfl;cases h
theorem pB {x:Bool} (h:(!x)=false):x=true:=by cases x;cases h;rfl
theorem Qk5 (s:List UInt8) (hs:s.length≤maxLen):TotP (fun N=>G4 N s) (fun v=>v.2=Q5n s):=by
 show TotP (fun N=>cond (Q5 .neq (s.length:Int) 2) _ _) _;unfold Q5n;rw [Y8];refine TotP.cond (fun h => .ret ?_) (fun h=>?_)
 ·have:¬ s.length=2:=fun e=>(of_decide_eq_true h) (by omega);rw [decide_eq_false this];rfl
 have h:s.length=2:=by have:=of_decide_eq_false h;omega
 rw [decide_eq_true h];refine TotP.bindE (Q46 s hs) ?_;refine TotP.cond (fun g => .ret (by simpa using g)) (fun g=>?_);exact TotP.bind (Zkm s h) (fun _ _ => .ret (by simpa using g))
theorem Qr6 (e:Qc) (ht:e.Topic.length≤maxLen) (hl:e.Hops.length≤30) (hn:∀ x∈e.Hops,x.Node.length≤300):Tot (fun N=>Vz N e) (Qng e):=by
 refine TotP.tot ?_;unfold Vz Qng;refine TotP.bindE (.of fun N=>Qb2 N _ _ _) ?_
 have e0:(decide (0≤e.Type')&&decide (e.Type'≤2))=decide (0≤e.Type'∧e.Type'≤2):=by simp
 rw [e0];refine TotP.cond (fun g => .ret ?_) (fun g=>?_)
 ·rw [nB g];rfl
 rw [pB g];refine TotP.bind (Qk5 _ ht) (fun v hv=>?_);rw [Yk,hv];refine TotP.cond (fun g2=>?_) (fun g2=>?_)
 ·rw [g2];refine TotP.cond (fun g3 => .ret ?_) (fun g3=>?_)
  ·rw [nB g3];rfl
  rw [pB g3];refine TotP.bindE (v:=⟨1048576,32⟩) (.of fun _=>rfl) ?_;refine TotP.bind (Qkf e.Hops hl hn) (fun w hw => .ret ?_);rw [Yk,hw];rfl
 rw [g2];refine TotP.bindE (v:=⟨1048576,32⟩) (.of fun _=>rfl) ?_;refine TotP.bind (Qkf e.Hops hl hn) (fun w hw => .ret ?_);rw [Yk,hw];rfl
open Classical in
noncomputable def Q52 (e:Qc):Bool:=decide (e.Packet=zPk∧e.Msg=zMk∧e.Frame=zFk)
open Classical in
theorem Qty {e:Qc} (hpk:Quf e.Packet) (hs:Q2.szs e.Frame.Values<700000000):Tot (fun N=>Vx N e) (Q52 e):=by
 have key:TotP (fun N=>Vx N e) (fun v=>v=true↔e.Packet=zPk∧e.Msg=zMk∧e.Frame=zFk):=by
  unfold Vx;refine TotP.bind (Qhx e.Packet zPk hpk) (fun v hv=>?_);refine TotP.cond (fun g=>?_) (fun g => .ret ⟨fun h=>absurd h (by decide),fun h=>absurd (hv.2 h.1) (by rw [g];decide)⟩)
  refine TotP.cond (fun g2=>?_) (fun g2 => .ret ⟨fun h=>absurd h (by decide),fun h=>absurd ((Qna e.Msg zMk).2 h.2.1) (by
   intro h3;have:false=true:=g2.symm.trans h3;cases this)⟩)
  refine TotP.bind (V:=fun v=>v=true↔e.Frame=zFk) ⟨decide (e.Frame=zFk),decide_eq_true_iff,800000000,fun N hN=>Qq9 hN _ _ hs⟩ (fun w hw => .ret ⟨fun h=>⟨hv.1 g,(Qna e.Msg zMk).1 g2,hw.1 h⟩,fun h=>hw.2 h.2.2⟩)
 obtain ⟨v,hv,ht⟩:=key
 have:v=Q52 e:=by
  unfold Q52
  by_cases h:e.Packet=zPk∧e.Msg=zMk∧e.Frame=zFk
  ·rw [hv.2 h,decide_eq_true h]
  rw [decide_eq_false h]
  cases v with
  | false=>rfl
  | true=>exact absurd (hv.1 rfl) h
 rw [← this];exact ht
noncomputable def Q53 (e:Qc) (v:Int):Int:=
 open Classical in
 if ¬ ((e.Proto=1∨e.Proto=2∨e.Proto=3∨e.Proto=4)∧e.Kind=1) then 2 else if Jd e.Topic=false then 10 else if ¬ PubT e (cq e) (Qng e) (Q52 e) then 2 else if v≠0 then 9 else 0
section
variable {N:Nat} {e:Qc} {t b:Bool} {v:Int} (hn:Yq N e.Topic=some true) (ht:Vz N e=some t) (hb:Vx N e=some b) (hv:Xc N 3 e.Props=some v)
include hn ht hb hv
theorem Qnp (c:Bool) (h:PubT e c t b) (h0:v≠0):Zj N e c=some 9:=by
 obtain ⟨h1,h2,h3,h4,h5,h6,h7,h8,h9,h10,h11,h12⟩:=h;simp only [Zj,Xv,Xb,W1,W0,Xy,Q7u,hn,ht,hb,hv,Qb2,Lh,Yk,Y8,W9,Q6];have d1:decide (e.Proto=1∨e.Proto=2∨e.Proto=3∨e.Proto=4)=true:=decide_eq_true h1;have d2:decide (e.Kind≠1)=false:=decide_eq_false (by omega)
 have d4:(decide (0≤e.ID)&&decide (e.ID≤65535))=true:=by simp;omega
 have d5:(c == decide (e.ID≠0))=true:=by rw [h5];simp
 have d10:(decide (0≤e.Channel)&&decide (e.Channel≤65535))=true:=by simp;omega
 have dz:decide (v≠0)=true:=decide_eq_true h0;simp only [d1,d2,d4,d5,d10,h12,dz,Me,Mi,cond_true,cond_false];clear h5 d5 d1 d2 d4 d10 dz hn ht hb hv
 have nq:∀ {x:Bool},(!x)=true→x=false:=fun {x} h=>by cases x;rfl;cases h
 have nr:∀ {x:Bool},(!x)=false→x=true:=fun {x} h=>by cases x;cases h;rfl
 have h6':e.Dup=true→c=false→e.Proto=3:=fun a b=>by
  rcases h6 a with h | h
  ·rw [b] at h;cases h
  exact h
 by_cases p3:e.Proto=3
 ·have t1:=h8 p3;have a1:decide (e.Proto=3)=true:=decide_eq_true p3;have a2:decide ((e.Props.length:Int)>0)=false:=decide_eq_false (by omega);have a3:decide (e.Channel≠0)=false:=decide_eq_false (by omega);simp only [a1,a2,a3,t1,Me,Mi,cond_true,cond_false];refine Q25 (fun g=>?_) (fun g=>?_)
  ·have g:=nq g
   have a4:decide (e.QoS = -1)=true:=decide_eq_true (by
    rw [show (decide (0≤e.QoS)&&decide (e.QoS≤2))=decide (0≤e.QoS∧e.QoS≤2) by simp] at g
    have:=of_decide_eq_false g;omega)
   simp only [a4,Me,Mi,cond_true,cond_false]
   repeat' first | refine Q59 ?_ ?_ | exact rfl
  repeat' first | refine Q59 ?_ ?_ | exact rfl
 have t1:=h9 p3;have a1:decide (e.Proto=3)=false:=decide_eq_false p3
 have a2:(decide (0≤e.QoS)&&decide (e.QoS≤2))=true:=by simp;omega
 have a3:decide (e.Type'≠0)=false:=decide_eq_false (by omega);have a4:decide ((e.Hops.length:Int)>0)=false:=decide_eq_false (by omega);simp only [a1,a2,a3,a4,Me,Mi,cond_true,cond_false];refine Q25 (fun g=>?_) (fun g=>?_)
 ·refine Q25 (fun g2=>?_) (fun g2=>?_)
  ·have:=h6' g (nq g2);exact absurd this p3
  refine Q25 (fun g3=>?_) (fun g3=>?_)
  ·have a5:decide (e.Proto≠2)=false:=decide_eq_false (by have:=h7 (by have:=of_decide_eq_true g3;omega);omega);simp only [a5,cond_false];refine Q25 (fun g4=>?_) (fun g4=>rfl);have a6:decide (e.Proto≠4)=false:=decide_eq_false (by have:=h11 (of_decide_eq_true g4);omega);simp only [a6,cond_false]
  refine Q25 (fun g4=>?_) (fun g4=>rfl);have a6:decide (e.Proto≠4)=false:=decide_eq_false (by have:=h11 (of_decide_eq_true g4);omega);simp only [a6,cond_false]
 refine Q25 (fun g3=>?_) (fun g3=>?_)
 ·have a5:decide (e.Proto≠2)=false:=decide_eq_false (by have:=h7 (by have:=of_decide_eq_true g3;omega);omega);simp only [a5,cond_false];refine Q25 (fun g4=>?_) (fun g4=>rfl);have a6:decide (e.Proto≠4)=false:=decide_eq_false (by have:=h11 (of_decide_eq_true g4);omega);simp only [a6,cond_false]
 refine Q25 (fun g4=>?_) (fun g4=>rfl);have a6:decide (e.Proto≠4)=false:=decide_eq_false (by have:=h11 (of_decide_eq_true g4);omega);simp only [a6,cond_false]
end
theorem Qxh {e:Qc} {v:Int} (ht:e.Topic.length≤maxLen) (hl:e.Hops.length≤30) (hh:∀ x∈e.Hops,x.Node.length≤300) (hpk:Quf e.Packet) (hs:Q2.szs e.Frame.Values<700000000)
  (hv:Tot (fun N=>Xc N 3 e.Props) v):Tot (fun N=>Y7 N e) (Q53 e v):=by
 obtain ⟨N1,hn⟩:=Q46 e.Topic ht;obtain ⟨N2,ht⟩:=Qr6 e ht hl hh;obtain ⟨N3,hb⟩:=Qty hpk hs;obtain ⟨N4,hv⟩:=hv;refine ⟨max (max N1 N2) (max N3 N4),fun N hN=>?_⟩;have hn:=hn N (by omega);have ht:=ht N (by omega);have hb:=hb N (by omega);have hv:=hv N (by omega);show Y7 N e=_;rw [Qo4];unfold Q53
 by_cases h1:(e.Proto=1∨e.Proto=2∨e.Proto=3∨e.Proto=4)∧e.Kind=1
 ·rw [if_neg (not_not_intro h1)]
  cases hw:Jd e.Topic with
  | false=>
   rw [hw] at hn;have d1:decide (e.Proto=1∨e.Proto=2∨e.Proto=3∨e.Proto=4)=true:=decide_eq_true h1.1;have d2:decide (e.Kind≠1)=false:=decide_eq_false (by omega);simp only [Zj,Q7u,hn,Lh,Y8,d1,d2];rfl
  | true=>
   rw [hw] at hn;rw [if_neg (by decide)]
   by_cases h2:PubT e (cq e) (Qng e) (Q52 e)
   ·rw [if_neg (not_not_intro h2)]
    by_cases h3:v=0
    ·rw [if_neg (not_not_intro h3)];exact Qqq hn ht hb hv _ h2 h3
    rw [if_pos h3];exact Qnp hn ht hb hv _ h2 h3
   rw [if_pos h2];exact Qu4 hn ht hb hv _ h2
 rw [if_pos h1];simp only [Zj,Q7u,Lh,Y8]
 by_cases h2:e.Proto=1∨e.Proto=2∨e.Proto=3∨e.Proto=4
 ·have d1:decide (e.Proto=1∨e.Proto=2∨e.Proto=3∨e.Proto=4)=true:=decide_eq_true h2;have d2:decide (e.Kind≠1)=true:=decide_eq_true (fun h=>h1 ⟨h2,h⟩);rw [d1,d2];rfl
 rw [decide_eq_false h2];rfl
end
end Go.Av
namespace Go.Av
noncomputable section
section
variable {B:Nat} {c:Qa} (h:Cd B c) (hB:B≤1000) (k:c.m.Type'=12)
include h hB k
theorem Qym:TotP (fun N=>Qy N c) (fun r=>Cd (B+700000) r.2):=by
 unfold Qy;simp only [k]
 iterate 14 refine TotP.cond (fun g=>absurd g (by decide)) (fun _=>?_)
 refine TotP.cond (fun _=>?_) (fun g=>absurd g (by decide));refine TotP.bind (Qsb h (by omega)) (fun v hv=>?_);refine TotP.bind (Qzf hv (by omega)) (fun v hv=>?_);refine TotP.bind (Qy3 hv (by omega)) (fun v hv=>?_);refine TotP.bind (Qvs hv (by omega)) (fun v hv=>?_);exact TotP.ret (Cd.mono hv (by omega))
end
section
variable {m:Wh} (h:OkM m) (k:m.Type'=12)
include h k
theorem Qsp:TotP (fun N=>V9 N m) (fun l=>l.length≤700000):=by
 unfold V9;exact TotP.bind (Qym (c:=⟨1,m,[],false⟩) (cd0 h 1 (.inl rfl)) (by omega) k) (fun v hv => .ret (by have:=hv.ou;rw [Mf];omega))
theorem Quy:Any (fun N=>Ur N m):=by
 have hm:=ml7;have hn:=h.nm
 have h1:Any (fun N=>Q0a N m.Type'):=by rw [k];exact ⟨_,trivial,.of fun N=>rfl⟩
 have h2:Tot (fun N=>Q33 N m.Type') false:=by rw [k];exact .of fun N=>rfl
 have h3:Any (fun N=>Uz N m):=by
  unfold Uz
  repeat' first
   | exact TotP.ret trivial
   | refine TotP.cond (fun _=>?_) (fun _=>?_)
 have hN:∀ s:List UInt8,s.length≤70000→Any (fun N=>Yq N s):=fun s hs=>Quj (Q46 _ (by omega))
 have h4:∀ i,Any (fun N=>Ws N i):=fun i=>by
  unfold Ws;refine TotP.cond (fun _ => .ret trivial) (fun _=>TotP.cond (fun _ => .ret trivial) (fun _=>?_));refine TotP.bind (Q97 _ _) (fun v hv=>?_);refine TotP.bind (hN v (by omega)) (fun _ _=>?_);exact TotP.cond (fun _ => .ret trivial) (fun _ => .ret trivial)
 have h5:Any (fun N=>Vg N m):=by
  unfold Vg
  repeat' first
   | exact TotP.ret trivial
   | refine TotP.cond (fun _=>?_) (fun _=>?_)
   | refine TotP.bind (by first | exact h4 _) (fun _ _=>?_)
 have h6:Any (fun N=>Jw N m):=by
  unfold Jw;simp only [k];exact ⟨0,trivial,.of fun N=>rfl⟩
 have h7:=(Qym (c:=⟨2,m,[],false⟩) (cd0 h 2 (.inr rfl)) (by omega) k).any;have h8:=(Qsp h k).any;have h9:∀ a b,Any (fun N=>Xg N a b):=fun a b=>(Qgm a b).any;have h10:=Qrz m.Type' m.Flags;unfold Ur;refine TotP.bind h1 (fun _ _=>TotP.cond (fun _ => .ret trivial) (fun _=>?_));refine TotP.bind h10 (fun _ _=>TotP.cond (fun _ => .ret trivial) (fun _=>?_));refine TotP.bindE h2 ?_;refine TotP.cond (fun g=>absurd g (by decide)) (fun _=>?_)
 repeat' first
  | exact TotP.ret trivial
  | refine TotP.cond (fun _=>?_) (fun _=>?_)
  | refine TotP.bind (by first | exact h7 | exact h3 | exact h5 | exact h6 | exact h8 | exact h9 _ _) (fun _ _=>?_)
theorem Qjk:TotP (fun N=>Xw N m) (fun r=>r.1.length≤800000):=by
 unfold Xw;refine TotP.bind (Quy h k) (fun _ _=>TotP.cond (fun _ => .ret (by simp)) (fun _=>?_));refine TotP.bind (Qsp h k) (fun v hv=>?_);refine TotP.bind (Qgm _ _) (fun w hw=>TotP.cond (fun _ => .ret (by simp)) (fun _=>?_));exact TotP.chk (by rw [Lx];omega) (.ret (by simp only [Lu];omega))
end
theorem Qxf {d:Qm} (h:Qz1 d) (k:d.Msg.Type'=12) (l:X2):Any (fun N=>Zv N d l):=by
 have hc:=h.hops
 have h0:Any (fun N=>Y3 N d l N 0):=by
  refine Q5o (L:=fun N n i=>Y3 N d l n i) d.Hops.length (fun _=>True) (fun i hi _=>?_) (fun _=>?_) trivial
  ·show Stp _ _ _ (fun N n=>cond (Q5 .lss (i:Int) ((Q9 V0.cells d.Hops).length:Int)) _ _);refine Stp.cond (fun _=>?_) (fun _=>?_)
   ·refine Stp.idx (Zg hi) ?_;refine Stp.bind (Qpf _) (fun _ _=>?_);refine Stp.cond (fun _=>?_) (fun _=>?_)
    ·refine Stp.cond (fun _=>Stp.ret trivial) (fun _=>?_);refine Stp.fin (TotP.bind (Qjk h.msg k) (fun v hv=>?_));exact TotP.cond (fun _ => .ret trivial) (fun _=>Qmg h l v hv)
    rw [w64 _ (by omega)];exact Stp.go (L:=fun N n i=>Y3 N d l n i) _ ⟨by omega,trivial⟩
   refine Stp.fin (TotP.bind (Qjk h.msg k) (fun v hv=>?_));exact TotP.cond (fun _ => .ret trivial) (fun _=>Qep h l v hv)
  show Stp _ _ _ (fun N n=>cond (Q5 .lss (d.Hops.length:Int) ((Q9 V0.cells d.Hops).length:Int)) _ _);rw [Q6,Qq,decide_eq_false (by omega)];refine Stp.fin (TotP.bind (Qjk h.msg k) (fun v hv=>?_));exact TotP.cond (fun _ => .ret trivial) (fun _=>Qep h l v hv)
 have h1:Any (fun N=>Gd N l):=by
  unfold Gd
  repeat' first
   | exact TotP.ret trivial
   | refine TotP.cond (fun _=>?_) (fun _=>?_)
 unfold Zv J7;refine TotP.bind (V:=fun _=>True) ?_ (fun _ _ => .ret trivial);refine TotP.bind h1 (fun _ _=>?_);exact TotP.cond (fun _ => .ret trivial) (fun _=>TotP.cond (fun _ => .ret trivial) (fun _=>h0))
end
end Go.Av
namespace Go.Av
noncomputable section
section
variable {T:Type}
end
structure Z0x (p:Ql):Prop where
 codes:p.Codes.length≤100000
 filters:p.Filters.length≤100000
 props:p.Props.length≤100000
 wprops:p.Will.Props.length≤100000
theorem Qi5 (e:Qc) (hp:e.Props.length≤100000) (hh:e.Hops.length≤100000) (hk:Qqt e.Packet) (hv:e.Frame.Values = []):Tot (fun N=>Wq N e) e:=by
 refine ⟨1,fun N hN=>?_⟩;obtain ⟨M,rfl⟩:∃ M,N=M+1:=⟨N - 1,by omega⟩;show Wq (M+1) e=_;unfold Wq;rw [Q5t _ _ hp,Qiw _ _ hh,Qj4 _ _ hk];simp only [Lh];obtain ⟨a0,a1,a2,a3,a4,a5,a6,a7,a8,a9,a10,a11,a12,a13,⟨b0,b1,b2,b3⟩⟩:=e
 simp only at hv
 subst hv;rfl
end
end Go.Av
namespace Go.Av
noncomputable section
theorem Q16 {T:Type} (c:T→List PV) (l:List T):(Q9 c l).length=l.length:=by simp [Q9]
def few (m:Nat) (o:Q1):Prop:=o.L.length≤m∧∀ e∈o.L,e.l.length≤m
theorem Qew {m:Nat} (hm:m≤1000) {o:Q1} (ho:few m o) (c:List UInt8):TotP (fun N=>Zw N o c) (fun r=>r.1.length≤m∧r.2=o):=by
 unfold Zw;refine Q5o (L:=fun N n s=>Z6 N o c n s) o.L.length (fun _=>True) (fun i hi _=>?_) (fun _=>?_) trivial
 ·have hy:o.L[i].l.length≤m:=ho.2 _ (Mj hi);have:=ho.1;show Stp _ _ _ (fun N n=>cond (Q5 .lss (i:Int) ((Q9 Q0.cells o.L).length:Int)) _ _);rw [Q16,Qq];refine Stp.cond (fun _=>?_) (fun h=>absurd (of_decide_eq_false h) (by omega));refine Stp.idx (Zg hi) ?_;refine Stp.cond (fun _=>?_) (fun _=>?_)
  ·refine Stp.idx (Zg hi) ?_;refine Stp.cond (fun _=>Stp.ret ⟨Mg _,rfl⟩) (fun _=>?_);refine Stp.chk (by rw [Q16,Lx];omega) ?_;exact Stp.ret ⟨by simpa using hy,rfl⟩
  rw [w64 _ (by omega)];exact Stp.go (L:=fun N n s=>Z6 N o c n s) _ ⟨by omega,trivial⟩
 show Stp _ _ _ (fun N n=>cond (Q5 .lss ((o.L.length:Nat):Int) ((Q9 Q0.cells o.L).length:Int)) _ _);rw [Q16,Qq];refine Stp.cond (fun h=>absurd (of_decide_eq_true h) (by omega)) (fun _=>Stp.ret ⟨Mg _,rfl⟩)
theorem Qi6 {m:Nat} (hm:m≤1000) {l:List Zf} (hl:l.length≤m) (t:Zf):TotP (fun N=>Wi N l t) (fun r=>r.length≤m+1):=by
 unfold Wi;refine Q6n (S:=Bool×Int×List Zf) (L:=fun N n s=>Zh N l t n s.1 s.2.1 s.2.2) (fun s=>∃ i:Nat,s.2.1=(i:Int)∧i≤l.length∧s.2.2.length≤i+(if s.1=true then 1 else 0)) (fun s=>l.length - s.2.1.toNat) ?_ (false,0,[]) ⟨0,rfl,Mg _,by simp⟩
 rintro ⟨b,j,out⟩ ⟨i,hj,hi,ho⟩
 simp only at hj hi ho
 subst hj;show Stp _ _ _ (fun N n=>cond (Q5 .lss (i:Int) ((Q9 Zf.cells l).length:Int)) _ _);rw [Q16,Qq];dsimp only
 have hob:out.length≤i+1:=by revert ho;split<;>omega
 refine Stp.cond (fun h=>?_) (fun _=>?_)
 ·have hlt:i<l.length:=by have:=of_decide_eq_true h;omega
  have ew:wrap .i64 ((i:Int)+1)=((i+1:Nat):Int):=by rw [w64 _ (by omega)];omega
  rw [ew];refine Stp.cond (fun hb=>?_) (fun hb=>?_)
  ·have hb:b=false:=by simpa using hb
   subst hb
   have ho:out.length≤i:=by simpa using ho
   refine Stp.idx (Zg hlt) ?_;refine Stp.cond (fun _=>?_) (fun _=>?_)
   ·refine Stp.chk (by rw [Lx];omega) ?_;refine Stp.idx (Zg hlt) ?_;refine Stp.chk (by rw [Lx];omega) ?_;exact Stp.go (L:=fun N n s=>Zh N l t n s.1 s.2.1 s.2.2) (true,((i+1:Nat):Int),(out ++ [t]) ++ [l[i]]) ⟨⟨i+1,rfl,hlt,by simp;omega⟩,by simp only [Lw];omega⟩
   refine Stp.idx (Zg hlt) ?_;refine Stp.chk (by rw [Lx];omega) ?_;exact Stp.go (L:=fun N n s=>Zh N l t n s.1 s.2.1 s.2.2) (false,((i+1:Nat):Int),out ++ [l[i]]) ⟨⟨i+1,rfl,hlt,by simp;omega⟩,by simp only [Lw];omega⟩
  refine Stp.idx (Zg hlt) ?_;refine Stp.chk (by rw [Lx];omega) ?_;exact Stp.go (L:=fun N n s=>Zh N l t n s.1 s.2.1 s.2.2) (b,((i+1:Nat):Int),out ++ [l[i]]) ⟨⟨i+1,rfl,hlt,by simp only [Lu,Bb];omega⟩,by simp only [Lw];omega⟩
 refine Stp.cond (fun hb=>?_) (fun _=>Stp.ret (by omega))
 have hb:b=false:=by simpa using hb
 subst hb
 have ho:out.length≤i:=by simpa using ho
 refine Stp.chk (by rw [Lx];omega) ?_;exact Stp.ret (by simp;omega)
theorem Qhv {m:Nat} (hm:m≤1000) {o:Q1} (ho:few m o) (c:List UInt8) {l:List Zf} (hl:l.length≤m+1):TotP (fun N=>Y6 N o c l) (fun r=>few (m+1) r.2):=by
 unfold Y6;refine Q6n (S:=Bool×Int×List Q0) (L:=fun N n s=>Q7 N o c l n s.1 s.2.1 s.2.2)
  (fun s=>∃ i:Nat,s.2.1=(i:Int)∧i≤o.L.length∧s.2.2.length≤i+(if s.1=true then 1 else 0)∧∀ e∈s.2.2,e.l.length≤m+1) (fun s=>o.L.length - s.2.1.toNat) ?_ (_,0,[]) ⟨0,rfl,Mg _,by simp,fun e h=>by cases h⟩
 rintro ⟨b,j,out⟩ ⟨i,hj,hi,hq,hx⟩
 simp only at hj hi hq hx
 subst hj;have h1:=ho.1;show Stp _ _ _ (fun N n=>cond (Q5 .lss (i:Int) ((Q9 Q0.cells o.L).length:Int)) _ _);rw [Q16,Qq];dsimp only
 have hob:out.length≤i+1:=by revert hq;split<;>omega
 have addx:∀ (l1:List Q0) (e:Q0),(∀ e∈l1,e.l.length≤m+1)→e.l.length≤m+1→∀ x∈l1 ++ [e],x.l.length≤m+1:=fun l1 e h1 h2 x hx=>by
  rcases Mc.1 hx with h | h
  ·exact h1 x h
  simp at h;subst h;exact h2
 refine Stp.cond (fun h=>?_) (fun _=>?_)
 ·have hlt:i<o.L.length:=by have:=of_decide_eq_true h;omega
  have hy:o.L[i].l.length≤m+1:=Nd (ho.2 _ (Mj hlt))
  have ew:wrap .i64 ((i:Int)+1)=((i+1:Nat):Int):=by rw [w64 _ (by omega)];omega
  rw [ew];refine Stp.idx (Zg hlt) ?_
  have go:∀ (b':Bool) (out':List Q0),out'.length≤i+1+(if b'=true then 1 else 0)→(∀ e∈out',e.l.length≤m+1)→Stp (fun N n (s:Bool×Int×List Q0)=>Q7 N o c l n s.1 s.2.1 s.2.2)
    (fun s'=>(∃ i:Nat,s'.2.1=(i:Int)∧i≤o.L.length∧s'.2.2.length≤i+(if s'.1=true then 1 else 0)∧∀ e∈s'.2.2,e.l.length≤m+1)∧o.L.length - s'.2.1.toNat<o.L.length - (i:Int).toNat) (fun r=>few (m+1) r.2)
    (fun N n=>Q7 N o c l n b' ((i+1:Nat):Int) out'):=fun b' out' h2 h3=>
   Stp.go (L:=fun N n (s:Bool×Int×List Q0)=>Q7 N o c l n s.1 s.2.1 s.2.2) (b',((i+1:Nat):Int),out') ⟨⟨i+1,rfl,hlt,h2,h3⟩,by simp only [Lw];omega⟩
  have keep:∀ b',b'=b→Stp (fun N n (s:Bool×Int×List Q0)=>Q7 N o c l n s.1 s.2.1 s.2.2)
    (fun s'=>(∃ i:Nat,s'.2.1=(i:Int)∧i≤o.L.length∧s'.2.2.length≤i+(if s'.1=true then 1 else 0)∧∀ e∈s'.2.2,e.l.length≤m+1)∧o.L.length - s'.2.1.toNat<o.L.length - (i:Int).toNat) (fun r=>few (m+1) r.2)
    (fun N n=>cond (Q0m .neq o.L[i].client c) (cond (Nat.ble ((out.length+1+4096) * 40) 17592186044416) (Q7 N o c l n b' ((i+1:Nat):Int) (out ++ [o.L[i]])) none) (Q7 N o c l n b' ((i+1:Nat):Int) out)):=fun b' hb'=>by
   subst hb';refine Stp.cond (fun _=>?_) (fun _=>go _ _ (by omega) hx);refine Stp.chk (by rw [Lx];omega) ?_;exact go _ _ (by simp only [Lu,Bb];omega) (addx _ _ hx hy)
  refine Stp.cond (fun hb=>?_) (fun _=>keep b rfl);refine Stp.cond (fun _=>?_) (fun _=>keep b rfl)
  have hb:b=false:=by simpa using hb
  subst hb
  have hq:out.length≤i:=by simpa using hq
  refine Stp.chk (by rw [Lx];omega) ?_;refine Stp.cond (fun _=>?_) (fun _=>?_)
  ·refine Stp.chk (by rw [Lx];omega) ?_;exact go _ _ (by simp;omega) (addx _ _ (addx _ _ hx hl) hy)
  exact go _ _ (by simp;omega) (addx _ _ hx hl)
 refine Stp.cond (fun hb=>?_) (fun _=>Stp.ret ⟨by show out.length≤_;omega,hx⟩)
 have hb:b=false:=by simpa using hb
 subst hb
 have hq:out.length≤i:=by simpa using hq
 refine Stp.chk (by rw [Lx];omega) ?_;exact Stp.ret ⟨by show (out ++ [_]).length≤_;simp;omega,addx _ _ hx hl⟩
theorem Qqw {m:Nat} (hm:m≤1000) (c n:List UInt8) {v:List Zf×Q1} (hv:v.1.length≤m) (ho:few m v.2) :
  TotP (fun N=>Qh N c n v N 1 0) (fun r=>few (m+1) r.2):=by
 refine Q6n (S:=Int×Int) (L:=fun N k s=>Qh N c n v k s.1 s.2) (fun s=>∃ i j:Nat,s.2=(i:Int)∧i≤v.1.length∧s.1=(j:Int)∧j≤i+1) (fun s=>v.1.length - s.2.toNat) ?_ (1,0) ⟨0,1,rfl,Mg _,rfl,Ll _⟩
 rintro ⟨f,k⟩ ⟨i,j,hk,hi,hf,hj⟩
 simp only at hk hf
 subst hk hf;have weak:few (m+1) v.2:=⟨Nd ho.1,fun e he=>Nd (ho.2 e he)⟩;show Stp _ _ _ (fun N n'=>cond (Q5 .lss (i:Int) ((Q9 Zf.cells v.1).length:Int)) _ _);rw [Q16,Qq];dsimp only;refine Stp.cond (fun h=>?_) (fun _=>?_)
 ·have hlt:i<v.1.length:=by have:=of_decide_eq_true h;omega
  have ew:wrap .i64 ((i:Int)+1)=((i+1:Nat):Int):=by rw [w64 _ (by omega)];omega
  have ej:wrap .i64 ((j:Int)+1)=((j+1:Nat):Int):=by rw [w64 _ (by omega)];omega
  rw [ew,ej];refine Stp.idx (Zg hlt) ?_;refine Stp.cond (fun _=>?_) (fun _=>?_)
  ·refine Stp.idx (Zg hlt) ?_;exact Stp.ret weak
  refine Stp.idx (Zg hlt) ?_;refine Stp.cond (fun _=>?_) (fun _=>?_)
  ·exact Stp.go (L:=fun N k (s:Int×Int)=>Qh N c n v k s.1 s.2) (((j+1:Nat):Int),((i+1:Nat):Int)) ⟨⟨i+1,j+1,rfl,hlt,rfl,by omega⟩,by simp only [Lw];omega⟩
  exact Stp.go (L:=fun N k (s:Int×Int)=>Qh N c n v k s.1 s.2) ((j:Int),((i+1:Nat):Int)) ⟨⟨i+1,j,rfl,hlt,rfl,by omega⟩,by simp only [Lw];omega⟩
 refine Stp.cond (fun _=>Stp.ret weak) (fun _=>?_);refine Stp.bind (Qi6 hm hv _) (fun w hw=>?_);refine Stp.bind (Qhv hm ho c hw) (fun u hu=>?_);exact Stp.ret hu
end
end Go.Av
namespace Go.Av
noncomputable section
open Go.Proofs
theorem Zcw (x:Nat) (h:x≤9223372036854775807):wrap .i64 (x:Int)=x:=w64 _ (by omega)
theorem Qjo (N:Nat) (s:List UInt8) (j:Nat):Zs N s (j:Int)=some (if goes s j then (((at8 s j - 128:Nat):Int),true) else (0,false)):=by
 unfold Zs;rw [Jh]
 by_cases hj:j<s.length
 ·have hb:=Di s[j];rw [decide_eq_false (show ¬ ((j:Int)≥(s.length:Int)) by omega),cond_false,Zg hj,Lh,Qq,Lh,W9,Lh];have e:=Q7f hj
  by_cases h1:at8 s j<128
  ·rw [decide_eq_true (by omega),cond_true,if_neg (fun h=>by have:=h.2.1;omega)]
  rw [decide_eq_false (by omega),cond_false]
  by_cases h2:at8 s j<192
  ·rw [decide_eq_false (by omega),cond_false,if_pos ⟨hj,by omega,h2⟩,w64 ((s[j]).toNat:Int) (by omega),w64 _ (by omega)]
   congr 2;omega
  rw [decide_eq_true (by omega),cond_true,if_neg (fun h=>h2 h.2.2)]
 rw [decide_eq_true (show ((j:Int)≥(s.length:Int)) by omega),cond_true,if_neg (fun h=>hj h.1)]
theorem Qzm (N:Nat) (s:List UInt8) (i n x k:Nat) (hk:k<2) (hx:x<1099511627776) (hi:i≤4611686018427387904):Z4 N s (i:Int) (n+1) (x:Int) (k:Int) =
  if goes s (i+k) then Z4 N s (i:Int) n ((64 * x+(at8 s (i+k) - 128):Nat):Int) ((k+1:Nat):Int) else some (0,0):=by
 have hb:=Q70 s (i+k);rw [Z4,Qq,decide_eq_true (by omega),cond_true,show wrap .i64 ((i:Int)+(k:Int))=((i+k:Nat):Int) by rw [w64 _ (by omega)];omega,Qjo,Lh]
 by_cases g:goes s (i+k)
 ·rw [if_pos g,if_pos g];show Z4 N s (i:Int) n (wrap .i64 (wrap .i64 (64 * (x:Int))+((at8 s (i+k) - 128:Nat):Int))) (wrap .i64 ((k:Int)+1))=_;rw [w64 (64 * (x:Int)) (by omega),w64 _ (by omega),w64 _ (by omega)]
  congr 1
 rw [if_neg g,if_neg g];rfl
theorem Qxp (N:Nat) (s:List UInt8) (i n x:Nat):Z4 N s (i:Int) (n+1) (x:Int) ((2:Nat):Int)=if 128≤x∧Q90 x then some ((x:Int),2) else some (0,0):=by
 rw [Z4,Qq,decide_eq_false (by omega),cond_false,Qq,W9,Jh,G9];unfold Q90
 by_cases h1:x<128
 ·rw [decide_eq_true (by omega),cond_true,if_neg (by omega)]
 rw [decide_eq_false (show ¬ ((x:Int)<128) by omega),cond_false]
 by_cases h2:x≤1114111
 ·rw [decide_eq_false (show ¬ ((x:Int)>1114111) by omega),cond_false]
  by_cases h3:55296≤x
  ·rw [decide_eq_true (show ((x:Int)≥55296) by omega),cond_true]
   by_cases h4:x≤57343
   ·rw [decide_eq_true (show ((x:Int)≤57343) by omega),cond_true,if_neg (by omega)]
   rw [decide_eq_false (show ¬ ((x:Int)≤57343) by omega),cond_false,if_pos (by omega)]
  rw [decide_eq_false (show ¬ ((x:Int)≥55296) by omega),cond_false,if_pos (by omega)]
 rw [decide_eq_true (show ((x:Int)>1114111) by omega),cond_true,if_neg (by omega)]
theorem Qwv (N:Nat) (s:List UInt8) (i n x k:Nat) (hk:k<3) (hx:x<1099511627776) (hi:i≤4611686018427387904):Z3 N s (i:Int) (n+1) (x:Int) (k:Int) =
  if goes s (i+k) then Z3 N s (i:Int) n ((64 * x+(at8 s (i+k) - 128):Nat):Int) ((k+1:Nat):Int) else some (0,0):=by
 have hb:=Q70 s (i+k);rw [Z3,Qq,decide_eq_true (by omega),cond_true,show wrap .i64 ((i:Int)+(k:Int))=((i+k:Nat):Int) by rw [w64 _ (by omega)];omega,Qjo,Lh]
 by_cases g:goes s (i+k)
 ·rw [if_pos g,if_pos g];show Z3 N s (i:Int) n (wrap .i64 (wrap .i64 (64 * (x:Int))+((at8 s (i+k) - 128:Nat):Int))) (wrap .i64 ((k:Int)+1))=_;rw [w64 (64 * (x:Int)) (by omega),w64 _ (by omega),w64 _ (by omega)]
  congr 1
 rw [if_neg g,if_neg g];rfl
theorem Qxc (N:Nat) (s:List UInt8) (i n x:Nat):Z3 N s (i:Int) (n+1) (x:Int) ((3:Nat):Int)=if 2048≤x∧Q90 x then some ((x:Int),3) else some (0,0):=by
 rw [Z3,Qq,decide_eq_false (by omega),cond_false,Qq,W9,Jh,G9];unfold Q90
 by_cases h1:x<2048
 ·rw [decide_eq_true (by omega),cond_true,if_neg (by omega)]
 rw [decide_eq_false (show ¬ ((x:Int)<2048) by omega),cond_false]
 by_cases h2:x≤1114111
 ·rw [decide_eq_false (show ¬ ((x:Int)>1114111) by omega),cond_false]
  by_cases h3:55296≤x
  ·rw [decide_eq_true (show ((x:Int)≥55296) by omega),cond_true]
   by_cases h4:x≤57343
   ·rw [decide_eq_true (show ((x:Int)≤57343) by omega),cond_true,if_neg (by omega)]
   rw [decide_eq_false (show ¬ ((x:Int)≤57343) by omega),cond_false,if_pos (by omega)]
  rw [decide_eq_false (show ¬ ((x:Int)≥55296) by omega),cond_false,if_pos (by omega)]
 rw [decide_eq_true (show ((x:Int)>1114111) by omega),cond_true,if_neg (by omega)]
theorem Qtl (N:Nat) (s:List UInt8) (i n x k:Nat) (hk:k<4) (hx:x<1099511627776) (hi:i≤4611686018427387904):Z2 N s (i:Int) (n+1) (x:Int) (k:Int) =
  if goes s (i+k) then Z2 N s (i:Int) n ((64 * x+(at8 s (i+k) - 128):Nat):Int) ((k+1:Nat):Int) else some (0,0):=by
 have hb:=Q70 s (i+k);rw [Z2,Qq,decide_eq_true (by omega),cond_true,show wrap .i64 ((i:Int)+(k:Int))=((i+k:Nat):Int) by rw [w64 _ (by omega)];omega,Qjo,Lh]
 by_cases g:goes s (i+k)
 ·rw [if_pos g,if_pos g];show Z2 N s (i:Int) n (wrap .i64 (wrap .i64 (64 * (x:Int))+((at8 s (i+k) - 128:Nat):Int))) (wrap .i64 ((k:Int)+1))=_;rw [w64 (64 * (x:Int)) (by omega),w64 _ (by omega),w64 _ (by omega)]
  congr 1
 rw [if_neg g,if_neg g];rfl
theorem Qwx (N:Nat) (s:List UInt8) (i n x:Nat):Z2 N s (i:Int) (n+1) (x:Int) ((4:Nat):Int)=if 65536≤x∧Q90 x then some ((x:Int),4) else some (0,0):=by
 rw [Z2,Qq,decide_eq_false (by omega),cond_false,Qq,W9,Jh,G9];unfold Q90
 by_cases h1:x<65536
 ·rw [decide_eq_true (by omega),cond_true,if_neg (by omega)]
 rw [decide_eq_false (show ¬ ((x:Int)<65536) by omega),cond_false]
 by_cases h2:x≤1114111
 ·rw [decide_eq_false (show ¬ ((x:Int)>1114111) by omega),cond_false]
  by_cases h3:55296≤x
  ·rw [decide_eq_true (show ((x:Int)≥55296) by omega),cond_true]
   by_cases h4:x≤57343
   ·rw [decide_eq_true (show ((x:Int)≤57343) by omega),cond_true,if_neg (by omega)]
   rw [decide_eq_false (show ¬ ((x:Int)≤57343) by omega),cond_false,if_pos (by omega)]
  rw [decide_eq_false (show ¬ ((x:Int)≥55296) by omega),cond_false,if_pos (by omega)]
 rw [decide_eq_true (show ((x:Int)>1114111) by omega),cond_true,if_neg (by omega)]
def ptF (q:Nat×Nat):Int×Int:=if q.1=65533∧q.2=1 then (0,0) else ((q.1:Int),(q.2:Int))
theorem Qhq {c w:Nat} (h:¬ (c=65533∧w=1)):ptF (c,w)=((c:Int),(w:Int)):=if_neg h
theorem Q4x:ptF (65533,1)=(0,0):=if_pos ⟨rfl,rfl⟩
def ptR (s:List UInt8) (i:Nat):Int×Int:=ptF (Q4z s i)
theorem Qs9 (s:List UInt8) (i:Nat) (hi:i<s.length) (hs:s.length≤4611686018427387904) (M:Nat):Xm (M+5) s (i:Int)=some (ptR s i):=by
 have hb:=Q70 s i;have hb1:=Q70 s (i+1);have hb2:=Q70 s (i+(1+1));have e:=Q7f hi
 have hw:wrap .i64 ((s[i]).toNat:Int)=(at8 s i:Int):=by rw [← e];exact Zcw _ (by omega)
 unfold Xm;rw [Zg hi,Lh,hw];simp only [Qq,Jh];unfold ptR Q4z
 by_cases c1:at8 s i<128
 ·rw [decide_eq_true (by omega),cond_true,if_pos c1,Qhq (by omega)];rfl
 rw [decide_eq_false (show ¬ ((at8 s i:Int)<128) by omega),cond_false,if_neg c1]
 by_cases c2:at8 s i<192
 ·rw [decide_eq_false (show ¬ ((at8 s i:Int)≥192) by omega),cond_false,decide_eq_false (show ¬ ((at8 s i:Int)≥224) by omega),cond_false,decide_eq_false (show ¬ ((at8 s i:Int)≥240) by omega),cond_false,
   if_neg (by omega),if_neg (by omega),if_neg (by omega),Q4x]
 rw [decide_eq_true (show ((at8 s i:Int)≥192) by omega),cond_true]
 by_cases c3:at8 s i<224
 ·rw [decide_eq_true (show ((at8 s i:Int)<224) by omega),cond_true,if_neg (c:=224≤at8 s i∧_) (by omega),if_neg (c:=240≤at8 s i∧_) (by omega)]
  have h0:wrap .i64 ((at8 s i:Int) - 192)=((at8 s i - 192:Nat):Int):=by rw [w64 _ (by omega)];omega
  rw [h0,show (1:Int)=((1:Nat):Int) from rfl,Qzm _ _ _ _ _ _ (by omega) (by omega) (by omega)]
  by_cases g1:goes s (i+1)
  ·rw [if_pos g1,show 1+1=2 from rfl,Qxp];have hg:=g1.2
   by_cases c4:128≤64 * (at8 s i - 192)+(at8 s (i+1) - 128)
   ·rw [if_pos ⟨c4,by unfold Q90;omega⟩,if_pos ⟨by omega,c3,g1,c4⟩,Qhq (by omega)];rfl
   rw [if_neg (fun h=>c4 h.1),if_neg (fun h=>c4 h.2.2.2),Q4x]
  rw [if_neg g1,if_neg (fun h=>g1 h.2.2.1),Q4x]
 rw [decide_eq_false (show ¬ ((at8 s i:Int)<224) by omega),cond_false,decide_eq_true (show ((at8 s i:Int)≥224) by omega),cond_true,if_neg (c:=192≤at8 s i∧_) (by omega)]
 by_cases c5:at8 s i<240
 ·rw [decide_eq_true (show ((at8 s i:Int)<240) by omega),cond_true,if_neg (c:=240≤at8 s i∧_) (by omega)]
  have h0:wrap .i64 ((at8 s i:Int) - 224)=((at8 s i - 224:Nat):Int):=by rw [w64 _ (by omega)];omega
  rw [h0,show (1:Int)=((1:Nat):Int) from rfl,Qwv _ _ _ _ _ _ (by omega) (by omega) (by omega)]
  by_cases g1:goes s (i+1)
  ·have hg1:=g1.2;rw [if_pos g1,Qwv _ _ _ _ _ _ (by omega) (by omega) (by omega)]
   by_cases g2:goes s (i+2)
   ·have hg2:=g2.2;rw [if_pos g2,show 1+1+1=3 from rfl,Qxc]
    by_cases c4:2048≤64 * (64 * (at8 s i - 224)+(at8 s (i+1) - 128))+(at8 s (i+2) - 128)∧Q90 (64 * (64 * (at8 s i - 224)+(at8 s (i+1) - 128))+(at8 s (i+2) - 128))
    ·rw [if_pos c4,if_pos ⟨by omega,c5,g1,g2,c4⟩,Qhq (by omega)];rfl
    rw [if_neg c4,if_neg (fun h=>c4 h.2.2.2.2),Q4x]
   rw [if_neg g2,if_neg (fun h=>g2 h.2.2.2.1),Q4x]
  rw [if_neg g1,if_neg (fun h=>g1 h.2.2.1),Q4x]
 rw [decide_eq_false (show ¬ ((at8 s i:Int)<240) by omega),cond_false,decide_eq_true (show ((at8 s i:Int)≥240) by omega),cond_true,if_neg (c:=224≤at8 s i∧_) (by omega)]
 by_cases c6:at8 s i<248
 ·rw [decide_eq_true (show ((at8 s i:Int)<248) by omega),cond_true]
  have h0:wrap .i64 ((at8 s i:Int) - 240)=((at8 s i - 240:Nat):Int):=by rw [w64 _ (by omega)];omega
  rw [h0,show (1:Int)=((1:Nat):Int) from rfl,Qtl _ _ _ _ _ _ (by omega) (by omega) (by omega)]
  by_cases g1:goes s (i+1)
  ·have hg1:=g1.2;rw [if_pos g1,Qtl _ _ _ _ _ _ (by omega) (by omega) (by omega)]
   by_cases g2:goes s (i+2)
   ·have hg2:=g2.2;rw [if_pos g2,Qtl _ _ _ _ _ _ (by omega) (by omega) (by omega)]
    by_cases g3:goes s (i+3)
    ·have hg3:=g3.2;rw [if_pos g3,show 1+1+1+1=4 from rfl,Qwx]
     by_cases c4:65536≤64 * (64 * (64 * (at8 s i - 240)+(at8 s (i+1) - 128))+(at8 s (i+2) - 128))+(at8 s (i+3) - 128)∧Q90 (64 * (64 * (64 * (at8 s i - 240)+(at8 s (i+1) - 128))+(at8 s (i+2) - 128))+(at8 s (i+3) - 128))
     ·rw [if_pos c4,if_pos ⟨by omega,c6,g1,g2,g3,c4⟩,Qhq (by omega)];rfl
     rw [if_neg c4,if_neg (fun h=>c4 h.2.2.2.2.2),Q4x]
    rw [if_neg g3,if_neg (fun h=>g3 h.2.2.2.2.1),Q4x]
   rw [if_neg g2,if_neg (fun h=>g2 h.2.2.2.1),Q4x]
  rw [if_neg g1,if_neg (fun h=>g1 h.2.2.1),Q4x]
 rw [decide_eq_false (show ¬ ((at8 s i:Int)<248) by omega),cond_false,if_neg (fun h=>c6 h.2.1),Q4x]
theorem Qoo (s:List UInt8) (i:Nat) (hi:i<s.length) (hs:s.length≤4611686018427387904):Tot (fun N=>Xm N s (i:Int)) (ptR s i):=
 ⟨5,fun N hN=>by obtain ⟨M,rfl⟩:∃ M,N=M+5:=⟨N - 5,by omega⟩;exact Qs9 s i hi hs M⟩
theorem Qqv (s:List UInt8) (hs:s.length≤4611686018427387904):Tot (fun N=>Uq N s) (Qw5 (Qih s 0)):=by
 refine TotP.tot ?_;refine Q6n (L:=fun N n (p:Int)=>Ys N s n p) (fun p=>∃ i:Nat,p=(i:Int)∧i≤s.length∧Qih s i=Qih s 0) (fun p=>s.length - p.toNat) ?_ 0 ⟨0,rfl,Mg _,rfl⟩
 rintro p ⟨i,rfl,hi,hb0⟩
 show Stp _ _ _ (fun N n=>cond (Q5 .lss (i:Int) (s.length:Int)) _ _);rw [Qq];refine Stp.cond (fun h=>?_) (fun h=>?_)
 ·have hl:i<s.length:=by have:=of_decide_eq_true h;omega
  have hw:=Qle s i hl
  have hb:Qih s i=(if (Q4z s i).1=0∨Qne s i then some i else Qih s (i+(Q4z s i).2)):=by rw [Qih,dif_pos hl]
  refine Stp.bind (V:=(· = ptR s i)) ⟨_,rfl,Qoo s i hl hs⟩ ?_
  rintro v rfl
  unfold ptR
  by_cases hn:Qne s i
  ·rw [if_pos (.inr hn)] at hb;unfold Qne at hn;rw [hn,Q4x];refine Stp.ret ?_;rw [← hb0,hb];rfl
  have hp:ptF (Q4z s i)=(((Q4z s i).1:Int),((Q4z s i).2:Int)):=Qhq (c:=(Q4z s i).1) (w:=(Q4z s i).2) (fun h=>hn (by unfold Qne;rw [← h.1,← h.2]));rw [hp,Yk,Yk];refine Stp.cond (fun h2=>by have:=of_decide_eq_true h2;have:=hw.1;omega) (fun _=>?_);refine Stp.cond (fun h0=>?_) (fun h0=>?_)
  ·have h0:(Q4z s i).1=0:=by have:=of_decide_eq_true h0;omega
   refine Stp.ret ?_;rw [← hb0,hb,if_pos (.inl h0)];rfl
  have h0:(Q4z s i).1≠0:=by have:=of_decide_eq_false h0;omega
  have e:wrap .i64 ((i:Int)+((Q4z s i).2:Int))=((i+(Q4z s i).2:Nat):Int):=by rw [w64 _ (by have:=hw.2.1;omega)];omega
  show Stp _ _ _ (fun N n=>Ys N s n (wrap .i64 ((i:Int)+((Q4z s i).2:Int))));rw [e];refine Stp.go _ ⟨⟨_,rfl,hw.2.1,?_⟩,by have:=hw.1;have:=hw.2.1;simp only [Lw];omega⟩;rw [← hb0,hb,if_neg]
  rintro (h | h)
  ·exact h0 h
  exact hn h
 have hl:¬ i<s.length:=by have:=of_decide_eq_false h;omega
 refine Stp.ret ?_;rw [← hb0,Qih,dif_neg hl];rfl
theorem Qvq (o:Option Nat):decide (Qw5 o<0)=o.isNone:=by
 cases o with
 | none=>rfl
 | some p=>exact decide_eq_false (by simp only [Qw5];omega)
theorem Qml (s:List UInt8):Tot (fun N=>U5 N s) (Qa0 s):=by
 refine TotP.tot ?_;show TotP (fun N=>cond (Q5 .leq (s.length:Int) 65535) _ _) _;rw [G9];refine TotP.cond (fun h=>?_) (fun h=>?_)
 ·have h:s.length≤65535:=by have:=of_decide_eq_true h;omega
  refine TotP.bindE (Qqv s (by omega)) (.ret ?_);rw [Qq,Qvq];simp [Qa0,h]
 have h:¬ s.length≤65535:=by have:=of_decide_eq_false h;omega
 exact .ret (by simp [Qa0,h])
theorem Qnt (s:List UInt8) (hs:s.length≤maxLen) (c:Nat):Tot (fun N=>Vk N s (c:Int)) (s.any fun b=>b.toNat == c):=by
 have hm:=Q65;refine TotP.tot ?_;refine Q5o (L:=fun N n i=>Xe N s (c:Int) n i) s.length (fun i=>∀ j (h:j<s.length),j<i→(s[j]).toNat≠c) (fun i hi hj=>?_) (fun hj=>?_) (fun j _ hj=>by omega)
 ·show Stp _ _ _ (fun N n=>cond (Q5 .lss (i:Int) (s.length:Int)) _ _);refine Stp.cond (fun _=>?_) (fun h=>by rw [Qq] at h;have:=of_decide_eq_false h;omega);refine Stp.idx (Zg hi) ?_;rw [Yk];refine Stp.cond (fun h=>?_) (fun h=>?_)
  ·refine Stp.ret (Eq.symm ?_);rw [Cf];exact ⟨s[i],Mj _,by have:=of_decide_eq_true h;simp;omega⟩
  rw [w64 _ (by omega)];refine Stp.go _ ⟨by omega,fun j hj2 hji=>?_⟩
  by_cases e:j=i
  ·subst e;have:=of_decide_eq_false h;omega
  exact hj j hj2 (by omega)
 show Stp _ _ _ (fun N n=>cond (Q5 .lss (s.length:Int) (s.length:Int)) _ _);refine Stp.cond (fun h=>by rw [Qq] at h;have:=of_decide_eq_true h;omega) (fun _=>?_);refine Stp.ret (Eq.symm ?_);rw [Cw];intro b hb;obtain ⟨j,hj2,rfl⟩:=Bg hb;have:=hj j hj2 hj2;simpa using this
theorem Quw (s:List UInt8):Qrw s=((s.any fun b=>b.toNat == 43)||(s.any fun b=>b.toNat == 35)):=by
 unfold Qrw
 induction s with
 | nil=>rfl
 | cons b s ih=>simp only [List.any_cons,ih];cases b.toNat == 43<;>cases b.toNat == 35<;>cases (s.any fun b=>b.toNat == 43)<;>cases (s.any fun b=>b.toNat == 35)<;>rfl
theorem Q7v (s:List UInt8) (hs:s.length≤maxLen):Tot (fun N=>Yp N s) (Jd s):=by
 refine TotP.tot ?_;show TotP (fun N=>cond (Q0m .neq s []) _ _) _
 have e:Q0m .neq s []=decide (s ≠ []):=by cases s<;>rfl
 rw [e];unfold Jd;rw [Quw];refine TotP.cond (fun h=>?_) (fun h => .ret (by rw [h];rfl));rw [h];refine TotP.bindE (Qml s) ?_;refine TotP.cond (fun h=>?_) (fun h => .ret (by rw [h];rfl));rw [h];refine TotP.bindE (Qnt s hs 43) ?_;refine TotP.cond (fun h=>?_) (fun h => .ret ?_)
 ·refine TotP.bindE (Qnt s hs 35) (.ret ?_)
  have h:(s.any fun b=>b.toNat == 43)=false:=by simpa using h
  rw [h];rfl
 have h:(s.any fun b=>b.toNat == 43)=true:=by simpa using h
 rw [h];rfl
end
end Go.Av
namespace Go.Av
noncomputable section
theorem Qg8 {m:Nat} (hm:m≤900) {o:Q1} (ho:few m o) (c n:List UInt8) (hn:n.length≤maxLen):TotP (fun N=>Z9 N o c n) (fun r=>few (m+1) r.2):=by
 have weak:few (m+1) o:=⟨Nd ho.1,fun e he=>Nd (ho.2 e he)⟩;unfold Z9;refine TotP.bindE (Q7v n hn) ?_;refine TotP.cond (fun _ => .ret weak) (fun _=>?_);refine TotP.bind (Qew (by omega) ho c) (fun v hv=>?_);exact Qqw (by omega) c n hv.1 (by rw [hv.2];exact ho)
theorem Qq7 {m:Nat} (hm:m≤900) (c n:List UInt8) (id:Int) {v:List Zf×Q1} (hv:v.1.length≤m) (ho:few m v.2) :
  TotP (fun N=>Qn N c n id v N 0) (fun r=>few (m+1) r.2):=by
 have weak:few (m+1) v.2:=⟨Nd ho.1,fun e he=>Nd (ho.2 e he)⟩;refine Q5o (L:=fun N k s=>Qn N c n id v k s) v.1.length (fun _=>True) (fun i hi _=>?_) (fun _=>?_) trivial
 ·show Stp _ _ _ (fun N k=>cond (Q5 .lss (i:Int) ((Q9 Zf.cells v.1).length:Int)) _ _);rw [Q16,Qq];refine Stp.cond (fun _=>?_) (fun h=>absurd (of_decide_eq_false h) (by omega));refine Stp.idx (Zg hi) ?_;refine Stp.cond (fun _=>Stp.ret weak) (fun _=>?_);refine Stp.idx (Zg hi) ?_;refine Stp.cond (fun _=>Stp.ret weak) (fun _=>?_);rw [w64 _ (by omega)];exact Stp.go (L:=fun N k s=>Qn N c n id v k s) _ ⟨by omega,trivial⟩
 show Stp _ _ _ (fun N k=>cond (Q5 .lss ((v.1.length:Nat):Int) ((Q9 Zf.cells v.1).length:Int)) _ _);rw [Q16,Qq];refine Stp.cond (fun h=>absurd (of_decide_eq_true h) (by omega)) (fun _=>Stp.fin ?_);refine TotP.bind (Qi6 (by omega) hv _) (fun w hw=>?_);refine TotP.bind (Qhv (by omega) ho c hw) (fun u hu=>?_);exact TotP.ret hu
theorem Qdp {m:Nat} (hm:m≤900) {o:Q1} (ho:few m o) (c n:List UInt8) (id:Int) (hn:n.length≤maxLen):TotP (fun N=>Z7 N o c n id) (fun r=>few (m+1) r.2):=by
 have weak:few (m+1) o:=⟨Nd ho.1,fun e he=>Nd (ho.2 e he)⟩;unfold Z7;refine TotP.bindE (Q7v n hn) ?_;refine TotP.cond (fun _ => .ret weak) (fun _=>?_);refine TotP.cond (fun _ => .ret weak) (fun _=>?_);refine TotP.cond (fun _ => .ret weak) (fun _=>?_);refine TotP.bind (Qew (by omega) ho c) (fun v hv=>?_)
 have ho2:few m v.2:=by rw [hv.2];exact ho
 have weak2:few (m+1) v.2:=⟨Nd ho2.1,fun e he=>Nd (ho2.2 e he)⟩;refine Q5o (L:=fun N k s=>Qw N c n id v k s) v.1.length (fun _=>True) (fun i hi _=>?_) (fun _=>?_) trivial
 ·have:=hv.1;show Stp _ _ _ (fun N k=>cond (Q5 .lss (i:Int) ((Q9 Zf.cells v.1).length:Int)) _ _);rw [Q16,Qq];refine Stp.cond (fun _=>?_) (fun h=>absurd (of_decide_eq_false h) (by omega));refine Stp.idx (Zg hi) ?_;refine Stp.cond (fun _=>Stp.ret weak2) (fun _=>?_);rw [w64 _ (by omega)];exact Stp.go (L:=fun N k s=>Qw N c n id v k s) _ ⟨by omega,trivial⟩
 show Stp _ _ _ (fun N k=>cond (Q5 .lss ((v.1.length:Nat):Int) ((Q9 Zf.cells v.1).length:Int)) _ _);rw [Q16,Qq];refine Stp.cond (fun h=>absurd (of_decide_eq_true h) (by omega)) (fun _=>Stp.fin ?_);exact Qq7 hm c n id hv.1 ho2
theorem Qw2 {R:Reg} (hw:WR R) (c n:List UInt8) (hn:n.length≤maxLen):TotP (fun N=>J9 N R c n) (· = Qnk (Jd n) R c n):=by
 unfold J9;refine TotP.bindE (Q46 n hn) ?_;rw [if_pos hw];exact .ret rfl
theorem Quh (R:Reg) (c n:List UInt8) (id:Int) (hn:n.length≤maxLen):TotP (fun N=>Uk N R c n id) (· = Qqj (Jd n) R c n id):=by
 unfold Uk;exact TotP.bindE (Q46 n hn) (.ret rfl)
theorem Qpk (l:List V0) (h:l.length≤30) (N:Nat):Gk N l=some l:=by
 unfold Gk
 cases l with
 | nil=>rfl
 | cons a l=>
  have e:Nat.beq (a::l).length 0=false:=rfl
  have e2:Nat.ble ((0+(a::l).length+4096) * 24) 17592186044416=true:=by rw [Lx];omega
  rw [e,e2];rfl
end
end Go.Av
namespace Go.Av
noncomputable section
theorem Qti:Qqt zPk:=by
 constructor<;>first | exact Mg _ | decide | (intro x hx;cases hx) | (constructor<;>first | exact Mg _ | (intro x hx;cases hx))
def there (p:Int) (e:Qc) (d:Bool) (ty:Int):Qc:=⟨p,1,e.Topic,e.Payload,e.QoS,e.Retain,d,e.ID,[],ty,[],0,zPk,zMk,zFk⟩
theorem LE.there {e:Qc} (h:LE e) (p:Int) (d:Bool) (ty:Int):LE (there p e d ty):=
 ⟨h.topic,h.payload,⟨Mg _,fun x hx=>nomatch hx⟩,Qti,⟨Mg _,(fun x hx=>nomatch hx),⟨Mg _,Mg _⟩⟩,⟨(fun x hx=>nomatch hx),(by show Q2.szs []<_;decide),(by show Q2.wgts []<_;decide)⟩⟩
theorem LE.szs {e:Qc} (h:LE e):Q2.szs e.Frame.Values<700000000:=Nat.lt_trans h.fb.sz (by decide)
theorem Qlz {e:Qc} {v:Int} (h:LE e) (hv:Tot (fun N=>Xc N 3 e.Props) v):Tot (fun N=>Y7 N e) (Q53 e v):=
 Qxh (Mw h.topic ml2) h.dg.hops h.dg.node h.pk.l h.szs hv
theorem Qmb:Tot (fun N=>Xc N 3 []) 0:=⟨50,fun N hN=>by obtain ⟨M,rfl⟩:∃ M,N=M+50:=⟨N - 50,by omega⟩;kernel_rfl⟩
theorem Qsm {e:Qc} {v:Int} (h:LE e) (hv:Tot (fun N=>Xc N 3 e.Props) v) (k:e.Kind=1) :
  Tot (fun N=>Q0i N e ⟨1048576,32⟩) (if Q53 e v≠0 then Q53 e v else if (e.Payload.length:Int)>1048576 then 4 else 0):=by
 refine TotP.tot ?_;unfold Q0i;refine TotP.bindE (v:=true) (.of fun _=>rfl) ?_;refine TotP.cond (fun h=>by cases h) (fun _=>?_);rw [Yk];refine TotP.cond (fun _=>?_) (fun g=>absurd k (of_decide_eq_false g));refine TotP.bindE (Qlz h hv) ?_;rw [Y8,W9];refine TotP.cond (fun g => .ret ?_) (fun g=>?_)
 ·rw [if_pos (of_decide_eq_true g)]
 rw [if_neg (of_decide_eq_false g)];refine TotP.cond (fun g => .ret ?_) (fun g => .ret ?_)
 ·rw [if_pos (of_decide_eq_true g)]
 rw [if_neg (of_decide_eq_false g)]
theorem Qrb (R:Reg) (cl:List UInt8) {e:Qc} {v:Int} (h:LE e) (hv:Tot (fun N=>Xc N 3 e.Props) v) (k:e.Kind=1) :
  TotP (fun N=>Yu N R cl e) (fun r=>r.2=R∧(r.1.2=0→e.Proto=3∧(e.Kind=1→Q53 e v=0))):=by
 have hm:=ml2;unfold Yu;rw [Y8];refine TotP.cond (fun _ => .ret ⟨rfl,fun h=>by cases h⟩) (fun g=>?_)
 have p3:e.Proto=3:=by have:=of_decide_eq_false g;omega
 refine TotP.bindE (v:=⟨1048576,32⟩) (.of fun _=>rfl) ?_;refine TotP.bindE (Qsm h hv k) ?_;rw [Y8];refine TotP.cond (fun g => .ret ⟨rfl,fun h=>absurd h (of_decide_eq_true g)⟩) (fun g=>?_);have c0:=of_decide_eq_false g;have good:e.Proto=3∧(e.Kind=1→Q53 e v=0):=⟨p3,fun _=>Decidable.byContradiction fun hp=>by rw [if_pos hp] at c0;exact c0 hp⟩;refine TotP.bindE (v:=e.Hops) (.of fun N=>Qpk _ h.dg.hops N) ?_;have hd:∀ (m:Wh),OkM m→m.Type'=12→∀ l,Any (fun N=>Zv N ⟨e.Hops,m⟩ l):=fun m hm k l=>Qxf (d:=⟨e.Hops,m⟩) ⟨h.dg.hops,h.dg.node,hm⟩ k l;have hpub:∀ (f:Qp) (i:Int),OkM ⟨12,f,0,0,0,false,i,e.ID,0,[],e.Payload⟩:=fun f i=>⟨Mg _,Mw h.payload (by decide)⟩
 have fin:∀ (m:Wh),OkM m→m.Type'=12→TotP (fun N=>(X3 N).bind fun v33=>(Zv N (⟨e.Hops,m⟩:Qm) v33).bind fun v35=>
   cond (Q5 .neq v35 0) (some (((⟨[],zMk⟩:Qm),v35),R)) (some (((⟨e.Hops,m⟩:Qm),0),R))) (fun r=>r.2=R∧(r.1.2=0→e.Proto=3∧(e.Kind=1→Q53 e v=0))):=fun m hm hk=>by
  refine TotP.bindE (v:=⟨1048576,32⟩) (.of fun _=>rfl) ?_;refine TotP.bind (hd m hm hk _) (fun w _=>?_);exact TotP.cond (fun _ => .ret ⟨rfl,fun _=>good⟩) (fun _ => .ret ⟨rfl,fun _=>good⟩)
 rw [Yk];refine TotP.cond (fun _=>?_) (fun g=>absurd k (of_decide_eq_false g));refine TotP.cond (fun _=>?_) (fun _=>?_)
 ·refine TotP.bind (f:=fun N=>Vd N ⟨⟩ e.Topic) (V:=fun _=>True) ?_ (fun w _=>?_)
  ·exact TotP.bind (Qk5 _ (Mw h.topic hm)) (fun _ _ => .ret trivial)
  exact TotP.cond (fun _ => .ret ⟨rfl,fun _=>good⟩) (fun _=>fin _ (hpub _ _) rfl)
 refine TotP.cond (fun _=>?_) (fun _=>?_)
 ·refine TotP.bindE (v:=(rID R cl e.Topic,R)) (.of fun _=>rfl) ?_;refine TotP.cond (fun _ => .ret ⟨rfl,fun _=>good⟩) (fun _=>?_);refine TotP.bindE (v:=(Q1i R cl (rID R cl e.Topic).1,R)) (.of fun _=>rfl) ?_;exact TotP.cond (fun _ => .ret ⟨rfl,fun _=>good⟩) (fun _=>fin _ (hpub _ _) rfl)
 refine TotP.bindE (v:=(rID R cl e.Topic,R)) (.of fun _=>rfl) ?_;refine TotP.cond (fun _ => .ret ⟨rfl,fun _=>good⟩) (fun _=>?_);refine TotP.bindE (v:=(Q1i R cl (rID R cl e.Topic).1,R)) (.of fun _=>rfl) ?_;exact TotP.cond (fun _ => .ret ⟨rfl,fun _=>good⟩) (fun _=>fin _ (hpub _ _) rfl)
def pOk (p:Int):Prop:=p=1∨p=2∨p=3∨p=4
inductive To28 (R:Reg) (cl:List UInt8) (e:Qc) (p v:Int):Qc×Int→Prop
 | arg (h:¬ pOk p):To28 R cl e p v (zEk,2)
 | bad (h:pOk p) (h0:Q53 e v≠0):To28 R cl e p v (zEk,Q53 e v)
 | own (h:pOk p) (h0:Q53 e v=0) (he:p=e.Proto):To28 R cl e p v (e,0)
 | loss (h:pOk p) (h0:Q53 e v=0) (he:p≠e.Proto) (why:e.Props ≠ []∨(p≠3∧e.QoS<0)∨(p=3∧((e.Topic.length≠2∧(rID R cl e.Topic).2≠0)∨∃ d:(Qm×Int)×Reg,d.1.2≠0 ∧
   Tot (fun N=>Yu N R cl (there 3 e e.Dup (if e.Topic.length=2 then 2 else if Q1i R cl (rID R cl e.Topic).1=true then 1 else 0))) d))):To28 R cl e p v (zEk,15)
 | plain (h:pOk p) (h0:Q53 e v=0) (he:p≠e.Proto) (hpr:e.Props = []) (h3:p≠3) (hq:0≤e.QoS):To28 R cl e p v (there p e (e.Dup&&decide (e.QoS>0)) 0,0)
 | sn (h:p=3) (h0:Q53 e v=0) (he:p≠e.Proto) (hpr:e.Props = []) (ty:Int) (hpub:Q53 (there 3 e e.Dup ty) 0=0):To28 R cl e p v (there 3 e e.Dup ty,0)
open Classical in
theorem Qfb {e:Qc} {v:Int} (h:Q53 e v=0):(Jd e.Topic=true∧PubT e (cq e) (Qng e) (Q52 e))∧(e.Packet=zPk∧e.Msg=zMk∧e.Frame=zFk)∧v=0∧e.Kind=1:=by
 unfold Q53 at h
 by_cases h1:(e.Proto=1∨e.Proto=2∨e.Proto=3∨e.Proto=4)∧e.Kind=1
 ·rw [if_neg (not_not_intro h1)] at h
  by_cases h2:Jd e.Topic=false
  ·rw [if_pos h2] at h;cases h
  rw [if_neg h2] at h
  by_cases h3:PubT e (cq e) (Qng e) (Q52 e)
  ·rw [if_neg (not_not_intro h3)] at h
   by_cases h4:v=0
   ·have hb:=h3.bare;unfold Q52 at hb;exact ⟨⟨by simpa using h2,h3⟩,of_decide_eq_true hb,h4,h1.2⟩
   rw [if_pos h4] at h;cases h
  rw [if_pos h3] at h;cases h
 rw [if_pos h1] at h;cases h
theorem Qt6 {e:Qc} {v:Int} (h:LE e) (h0:Q53 e v=0):Tot (fun N=>Wq N e) e:=by
 have hb:=(Qfb h0).2.1;have h1:=h.props.len;have h2:=h.dg.hops;have h2:e.Hops.length≤30:=h2;exact Qi5 e (by omega) (by omega) h.pk (by rw [hb.2.2];rfl)
theorem Qqo (R:Reg) (cl:List UInt8) {e:Qc} (p:Int) {v:Int} (h:LE e) (hv:Tot (fun N=>Xc N 3 e.Props) v):TotP (fun N=>Zl N R cl e p) (fun r=>r.2=R∧To28 R cl e p v r.1):=by
 have gtr:∀ l:List Zq,Q5 .gtr ((Q9 Zq.cells l).length:Int) 0=decide (l ≠ []):=fun l=>by
  rw [Q6,W9]
  cases l with
  | nil=>rfl
  | cons a l=>rw [decide_eq_true (p:=((a::l).length:Int)>0) (by simp only [Mp];omega),decide_eq_true (by simp)]
 have plainT:pOk p→p≠3→TotP (fun N=>(Y7 N e).bind fun v2=>cond (Q5 .neq v2 0) (some (((zEk),v2),R)) (cond (Q5 .eql p e.Proto) ((Wq N e).bind fun v6=>some ((v6,0),R))
   (cond (Q5 .gtr ((Q9 Zq.cells e.Props).length:Int) 0) (some (((zEk),15),R)) (cond (Q5 .lss e.QoS 0) (some (((zEk),15),R)) (cond e.Dup
   (some ((there p e (Q5 .gtr e.QoS 0) 0,0),R)) (some ((there p e false 0,0),R))))))) (fun r=>r.2=R∧To28 R cl e p v r.1):=fun hp h3=>by
  refine TotP.bindE (Qlz h hv) ?_;rw [Y8,Yk,gtr,Qq,W9];refine TotP.cond (fun g => .ret ⟨rfl,.bad hp (of_decide_eq_true g)⟩) (fun g=>?_)
  have h0:Q53 e v=0:=by have:=of_decide_eq_false g;omega
  refine TotP.cond (fun g=>TotP.bindE (Qt6 h h0) (.ret ⟨rfl,.own hp h0 (of_decide_eq_true g)⟩)) (fun g=>?_);have he:=of_decide_eq_false g;refine TotP.cond (fun g => .ret ⟨rfl,.loss hp h0 he (.inl (of_decide_eq_true g))⟩) (fun g=>?_)
  have hpr:e.Props = []:=by have:=of_decide_eq_false g;simpa using this
  refine TotP.cond (fun g => .ret ⟨rfl,.loss hp h0 he (.inr (.inl ⟨h3,of_decide_eq_true g⟩))⟩) (fun g=>?_)
  have hq:0≤e.QoS:=by have:=of_decide_eq_false g;omega
  refine TotP.cond (fun g => .ret ⟨rfl,?_⟩) (fun g => .ret ⟨rfl,?_⟩)
  ·have:=To28.plain (R:=R) (cl:=cl) hp h0 he hpr h3 hq;rw [g] at this;exact this
  have:=To28.plain (R:=R) (cl:=cl) hp h0 he hpr h3 hq;rw [g] at this;exact this
 unfold Zl;refine TotP.cond (fun g=>?_) (fun g1=>?_)
 ·have:p=1:=by simpa using g
  exact plainT (.inl this) (by omega)
 refine TotP.cond (fun g=>?_) (fun g2=>?_)
 ·have:p=2:=by simpa using g
  exact plainT (.inr (.inl this)) (by omega)
 refine TotP.cond (fun g=>?_) (fun g3=>?_)
 ·have p3:p=3:=by simpa using g
  have hp:pOk p := .inr (.inr (.inl p3));refine TotP.bindE (Qlz h hv) ?_;rw [Y8,Yk,gtr,Yk];refine TotP.cond (fun g => .ret ⟨rfl,.bad hp (of_decide_eq_true g)⟩) (fun g=>?_)
  have h0:Q53 e v=0:=by have:=of_decide_eq_false g;omega
  refine TotP.cond (fun g=>TotP.bindE (Qt6 h h0) (.ret ⟨rfl,.own hp h0 (of_decide_eq_true g)⟩)) (fun g=>?_);have he:=of_decide_eq_false g;refine TotP.cond (fun g => .ret ⟨rfl,.loss hp h0 he (.inl (of_decide_eq_true g))⟩) (fun g=>?_)
  have hpr:e.Props = []:=by have:=of_decide_eq_false g;simpa using this
  have ft:∀ ty,TotP (fun N=>Yu N R cl (there 3 e e.Dup ty)) (fun r=>r.2=R∧(r.1.2=0→(there 3 e e.Dup ty).Proto=3∧((there 3 e e.Dup ty).Kind=1→Q53 (there 3 e e.Dup ty) 0=0))):=fun ty=>Qrb R cl (h.there _ _ _) Qmb rfl
  have ret:∀ (ty:Int) (d:(Qm×Int)×Reg),Tot (fun N=>Yu N R cl (there 3 e e.Dup ty)) d→d.2=R∧(d.1.2=0→(there 3 e e.Dup ty).Proto=3∧((there 3 e e.Dup ty).Kind=1→Q53 (there 3 e e.Dup ty) 0=0)) →
    ty=(if e.Topic.length=2 then 2 else if Q1i R cl (rID R cl e.Topic).1=true then 1 else 0) →
    TotP (fun N=>(Yu N R cl (there p e e.Dup ty)).bind fun v30=>cond (Q5 .neq v30.1.2 0) (some (((zEk),15),v30.2)) (some ((there p e e.Dup ty,0),v30.2))) (fun r=>r.2=R∧To28 R cl e p v r.1):=fun ty d hd hq hty=>by
   subst p3;refine TotP.bindE hd ?_;rw [Y8];refine TotP.cond (fun g => .ret ⟨hq.1,.loss hp h0 he (.inr (.inr ⟨rfl,.inr ⟨d,of_decide_eq_true g,by rw [← hty];exact hd⟩⟩))⟩) (fun g => .ret ⟨hq.1,.sn rfl h0 he hpr ty ((hq.2 (by have:=of_decide_eq_false g;omega)).2 rfl)⟩)
  refine TotP.cond (fun g=>?_) (fun g=>?_)
  ·have hl:e.Topic.length=2:=by have:=of_decide_eq_true g;omega
   obtain ⟨d,hq,hd⟩:=ft 2;exact ret 2 d hd hq (by rw [if_pos hl])
  have hl:¬ e.Topic.length=2:=fun e2=>(of_decide_eq_false g) (by omega);refine TotP.bindE (v:=(rID R cl e.Topic,R)) (.of fun _=>rfl) ?_;rw [Y8];refine TotP.cond (fun g => .ret ⟨rfl,.loss hp h0 he (.inr (.inr ⟨p3,.inl ⟨hl,of_decide_eq_true g⟩⟩))⟩) (fun _=>?_);refine TotP.bindE (v:=(Q1i R cl (rID R cl e.Topic).1,R)) (.of fun _=>rfl) ?_;refine TotP.cond (fun g=>?_) (fun g=>?_)
  ·obtain ⟨d,hq,hd⟩:=ft 1;exact ret 1 d hd hq (by rw [if_neg hl,if_pos g])
  obtain ⟨d,hq,hd⟩:=ft 0;exact ret 0 d hd hq (by rw [if_neg hl,if_neg (by intro h2;rw [show Q1i R cl (rID R cl e.Topic).1=false from g] at h2;cases h2)])
 refine TotP.cond (fun g=>?_) (fun g4=>?_)
 ·have:p=4:=by simpa using g
  exact plainT (.inr (.inr (.inr this))) (by omega)
 refine .ret ⟨rfl,.arg ?_⟩;simp at g1 g2 g3 g4
 rintro (h | h | h | h)<;>omega
theorem Q8f (R:Reg) (cl:List UInt8) {e:Qc} (p:Int) {r:(Qc×Int)×Reg} (h:Tot (fun N=>Zl N R cl e p) r) (hr:r.2=R):Tot (fun N=>Zc N R cl e p) (decide (r.1.2=0),R):=by
 refine TotP.tot ?_;unfold Zc;refine TotP.bindE h ?_;rw [Yk,hr];exact .ret rfl
end
end Go.Av
namespace Go.Av
noncomputable section
def Qf4 (t:List Q8):List (List UInt8×List UInt8×Int):=t.map fun y=>(y.Client,y.Name,y.ID)
def Qoj (t:List Q8) (N:Nat) (i:Int) (c:List Q0) (R:Reg) (go:Int→List Q0→Reg→Option Bool):Option Bool:=
 (idx t i).bind fun y103=>
 cond (Q5 .eql y103.ID 0)
 ((idx t i).bind fun y110=>
 (idx t i).bind fun y112=>
 (J9 N R y110.Client y112.Name).bind fun v114=>
 (idx t i).bind fun y116=>
 (idx t i).bind fun y118=>
 (Z9 N (⟨c⟩:Q1) y116.Client y118.Name).bind fun v120=>
 go (wrap .i64 (i+1)) v120.2.L v114.2)
 ((idx t i).bind fun y128=>
 (idx t i).bind fun y130=>
 (idx t i).bind fun y132=>
 (Uk N R y128.Client y130.Name y132.ID).bind fun v134=>
 (idx t i).bind fun y136=>
 (idx t i).bind fun y138=>
 (idx t i).bind fun y140=>
 (Z7 N (⟨c⟩:Q1) y136.Client y138.Name y140.ID).bind fun v142=>
 go (wrap .i64 (i+1)) v142.2.L v134.2)
theorem Qnb {t:List Q8} (ht:t.length≤20) (hn:∀ y∈t,y.Name.length≤maxLen) {L:Nat→Nat→Int→List Q0→Reg→Option Bool} {K:Nat→Reg→Option Bool} {Q:Bool→Prop}
  (hL:∀ N n i c R,L N (n+1) i c R=cond (Q5 .lss i (t.length:Int)) (Qoj t N i c R (L N n)) (K N R)) (hK:TotP (fun N=>K N (Qn0 Jd (Qf4 t))) Q):TotP (fun N=>L N N 0 [] []) Q:=by
 refine Q6n (S:=Int×List Q0×Reg) (L:=fun N n s=>L N n s.1 s.2.1 s.2.2) (fun s=>∃ i:Nat,s.1=(i:Int)∧i≤t.length∧few i ⟨s.2.1⟩∧s.2.2=Qn0 Jd (Qf4 (t.take i))) (fun s=>t.length - s.1.toNat) ?_ (0,[],[]) ⟨0,rfl,Mg _,⟨Ll _,fun e h=>by cases h⟩,rfl⟩
 rintro ⟨j,c,R⟩ ⟨i,hj,hi,hf,hR⟩
 simp only at hj hf hR
 subst hj
 have e0:(fun N n=>L N (n+1) (i:Int) c R)=fun N n=>cond (Q5 .lss (i:Int) (t.length:Int)) (Qoj t N i c R (L N n)) (K N R):=by funext N n;exact hL _ _ _ _ _
 show Stp _ _ _ (fun N n=>L N (n+1) (i:Int) c R);rw [e0,Qq];dsimp only;refine Stp.cond (fun h=>?_) (fun h=>?_)
 ·have hlt:i<t.length:=by have:=of_decide_eq_true h;omega
  have hw:WR R:=by rw [hR];exact Qtt _ _
  have hln:=hn _ (Mj hlt)
  have ew:wrap .i64 ((i:Int)+1)=((i+1:Nat):Int):=by rw [w64 _ (by omega)];omega
  have fold:∀ q,Qf4 (t.take (i+1))=Qf4 (t.take i) ++ [q]→Qn0 Jd (Qf4 (t.take (i+1)))=Qdf Jd R q:=fun q hq=>by
   rw [hq,Qn0,List.foldl_append,hR];rfl
  have etr:Qf4 (t.take (i+1))=Qf4 (t.take i) ++ [(t[i].Client,t[i].Name,t[i].ID)]:=by
   unfold Qf4;rw [List.take_add_one,Df,Lc hlt];rfl
  have hfold:=fold _ etr;refine Stp.idx (Zg hlt) ?_;rw [Yk];refine Stp.cond (fun h0=>?_) (fun h0=>?_)
  ·have h0:=of_decide_eq_true h0;refine Stp.idx (Zg hlt) ?_;refine Stp.idx (Zg hlt) ?_;refine Stp.bind (Qw2 hw _ _ hln) (fun v hv=>?_);subst hv;refine Stp.idx (Zg hlt) ?_;refine Stp.idx (Zg hlt) ?_;refine Stp.bind (Qg8 (by omega) hf _ _ hln) (fun u hu=>?_);rw [ew];refine Stp.go (L:=fun N n (s:Int×List Q0×Reg)=>L N n s.1 s.2.1 s.2.2) (((i+1:Nat):Int),u.2.L,(Qnk (Jd t[i].Name) R t[i].Client t[i].Name).2) ⟨⟨i+1,rfl,hlt,hu,?_⟩,by simp only [Lw];omega⟩;rw [hfold];simp only [Qdf];rw [if_pos h0]
  have h0:=of_decide_eq_false h0;refine Stp.idx (Zg hlt) ?_;refine Stp.idx (Zg hlt) ?_;refine Stp.idx (Zg hlt) ?_;refine Stp.bind (Quh _ _ _ _ hln) (fun v hv=>?_);subst hv;refine Stp.idx (Zg hlt) ?_;refine Stp.idx (Zg hlt) ?_;refine Stp.idx (Zg hlt) ?_;refine Stp.bind (Qdp (by omega) hf _ _ _ hln) (fun u hu=>?_);rw [ew];refine Stp.go (L:=fun N n (s:Int×List Q0×Reg)=>L N n s.1 s.2.1 s.2.2) (((i+1:Nat):Int),u.2.L,(Qqj (Jd t[i].Name) R t[i].Client t[i].Name t[i].ID).2) ⟨⟨i+1,rfl,hlt,hu,?_⟩,by simp only [Lw];omega⟩;rw [hfold];simp only [Qdf];rw [if_neg h0]
 have:i=t.length:=by have:=of_decide_eq_false h;omega
 subst this;refine Stp.fin ?_;rw [hR,Dd];exact hK
theorem Qvy (t:List Q8) (ht:t.length≤maxLen):TotP (fun N=>U1 N t) (fun v=>v=true→t.length≤20∧∀ y∈t,y.Name.length≤200):=by
 have hm:=Q65;refine Q5o (L:=fun N n s=>Ya N t n s) t.length (fun i=>∀ j (h:j<t.length),j<i→(t[j]).Name.length≤200) (fun i hi hj=>?_) (fun hj=>?_) (fun j _ hj=>by omega)
 ·show Stp _ _ _ (fun N n=>cond (Q5 .lss (i:Int) ((Q9 Q8.cells t).length:Int)) _ _);rw [Q6,Qq];refine Stp.cond (fun _=>?_) (fun h=>by have:=of_decide_eq_false h;omega);refine Stp.idx (Zg hi) ?_;refine Stp.cond (fun _=>Stp.ret (fun h=>nomatch h)) (fun _=>?_);refine Stp.idx (Zg hi) ?_;rw [W9];refine Stp.cond (fun _=>Stp.ret (fun h=>nomatch h)) (fun h1=>?_);have h1:=of_decide_eq_false h1;rw [w64 _ (by omega)];refine Stp.go (L:=fun N n s=>Ya N t n s) _ ⟨by omega,fun j hj' hji=>?_⟩
  by_cases e:j=i
  ·subst e;omega
  exact hj j hj' (by omega)
 show Stp _ _ _ (fun N n=>cond (Q5 .lss (t.length:Int) ((Q9 Q8.cells t).length:Int)) _ _);rw [Q6,Qq];refine Stp.cond (fun h=>by have:=of_decide_eq_true h;omega) (fun _=>Stp.ret (fun h=>?_));rw [G9] at h;have h:=of_decide_eq_true h;refine ⟨by omega,fun y hy=>?_⟩;obtain ⟨j,hj',rfl⟩:=Bg hy;exact hj j hj' hj'
end
end Go.Av
namespace Go.Av
noncomputable section
theorem Qwi (N:Nat) (h:V0):Vi N h=some (Qkx h):=by
 unfold Vi Qkx;rw [Jh,G9,Jh,G9]
 by_cases h1:h.Radius≥0<;>by_cases h2:h.Radius≤3<;>by_cases h3:(h.Node.length:Int)≥1<;>by_cases h4:(h.Node.length:Int)≤32<;>simp [h1,h2,h3,h4]<;>omega
section
variable (l:List V0)
theorem Qts (h4:l.length≤4) (hn:∀ x∈l,x.Node.length≤32):TotP (fun N=>Wn N ⟨l,Qig⟩) (fun s=>s.length≤1000):=by
 unfold Wn;refine Q6n (L:=fun N n (q:List UInt8×Int)=>Y9 N ⟨l,Qig⟩ n q.1 q.2) (fun q=>∃ i:Nat,q.2=(i:Int)∧i≤l.length∧q.1.length≤40 * i) (fun q=>l.length - q.2.toNat) ?_ ([],0) ⟨0,rfl,Mg _,Mg _⟩
 rintro ⟨o,s⟩ ⟨i,hs,hi,hq⟩
 simp only at hs hq
 subst hs;show Stp _ _ _ (fun N n=>cond (Q5 .lss (i:Int) ((Q9 V0.cells l).length:Int)) _ _);rw [Q6,Qq];dsimp only;refine Stp.cond (fun hx=>?_) (fun _=>?_)
 ·have hx:=of_decide_eq_true hx
  have hi:i<l.length:=by omega
  refine Stp.idx (Zg hi) ?_;have hf:=hn _ (Mj hi);generalize l[i]=y at hf
  have e1:wrap .i64 ((i:Int)+1)=((i+1:Nat):Int):=by rw [w64 _ (by omega)];omega
  refine Stp.chk (by rw [Lx];simp;omega) ?_;refine Stp.chk (by rw [Lx];simp;omega) ?_;rw [e1];exact Stp.go (L:=fun N n (q:List UInt8×Int)=>Y9 N ⟨l,Qig⟩ n q.1 q.2) (_,((i+1:Nat):Int)) ⟨⟨i+1,rfl,by omega,by simp;omega⟩,by simp;omega⟩
 refine Stp.bind (V:=fun v=>v=([2,23],0)) ⟨_,rfl,.of fun _=>rfl⟩ (fun v hv=>?_);subst hv;exact Stp.chk (by rw [Lx];simp;omega) (Stp.ret (by simp;omega))
theorem Qv0 (hl:l.length≤30):TotP (fun N=>Wo N ⟨l,Qig⟩ ⟨1048576,32⟩) (fun v=>decide (v=0)=Q84 l):=by
 unfold Wo;refine TotP.bindE (v:=true) (.of fun _=>rfl) ?_;refine TotP.cond (fun h=>by cases h) (fun _=>?_);show TotP (fun N=>cond (Q5 .gtr ((Q9 V0.cells l).length:Int) 4) _ _) _;rw [Q6,W9];refine TotP.cond (fun h => .ret ?_) (fun h4=>?_)
 ·have h:=of_decide_eq_true h;unfold Q84;rw [decide_eq_false (p:=l.length≤4) (by omega)];rfl
 have h4:l.length≤4:=by have:=of_decide_eq_false h4;omega
 refine Q5o (L:=fun N n i=>Yb N ⟨l,Qig⟩ ⟨1048576,32⟩ n i) l.length (fun i=>∀ j (h:j<l.length),j<i→Qkx l[j]=true) (fun i hi hj=>?_) (fun hj=>?_) (fun j _ hj=>by omega)
 ·show Stp _ _ _ (fun N n=>cond (Q5 .lss (i:Int) ((Q9 V0.cells l).length:Int)) _ _);rw [Q6,Qq];refine Stp.cond (fun _=>?_) (fun h=>by have:=of_decide_eq_false h;omega);refine Stp.idx (Zg hi) ?_;refine Stp.bind (V:=fun v=>v=Qkx l[i]) ⟨_,rfl,.of fun N=>Qwi N _⟩ (fun v hv=>?_);refine Stp.cond (fun h=>Stp.ret ?_) (fun h=>?_)
  ·rw [hv] at h
   have:l.all Qkx=false:=by
    rw [Bool.eq_false_iff];intro hA;have:=Lp.1 hA _ (Mj hi);rw [this] at h;cases h
   unfold Q84;rw [this];simp
  rw [w64 _ (by omega)];refine Stp.go (L:=fun N n i=>Yb N ⟨l,Qig⟩ ⟨1048576,32⟩ n i) _ ⟨by omega,fun j hj' hji=>?_⟩
  by_cases e:j=i
  ·subst e;rw [hv] at h;exact pB h
  exact hj j hj' (by omega)
 show Stp _ _ _ (fun N n=>cond (Q5 .lss ((l.length:Nat):Int) ((Q9 V0.cells l).length:Int)) _ _);rw [Q6,Qq]
 have hA:∀ x∈l,Qkx x=true:=fun x hx=>by
  obtain ⟨j,hj',rfl⟩:=Bg hx;exact hj j hj' hj'
 refine Stp.cond (fun h=>by have:=of_decide_eq_true h;omega) (fun _=>?_)
 have e:Q84 l=true:=by unfold Q84;rw [decide_eq_true h4,Lp.2 hA];rfl
 rw [e];refine Stp.bind (V:=fun v=>v=0) ⟨_,rfl,.of fun _=>rfl⟩ (fun v hv=>?_);subst hv;refine Stp.cond (fun _=>?_) (fun h=>by cases h);refine Stp.bind (Qts l h4 fun x hx=>by have:=hA x hx;unfold Qkx at this;exact (of_decide_eq_true this).2.2.2) (fun s hs=>?_);rw [W9];exact Stp.cond (fun h=>by have h:(s.length:Int)>1048576:=of_decide_eq_true h;omega) (fun _=>Stp.ret rfl)
end
theorem Qwm (l:List V0) (hl:l.length≤30):Tot (fun N=>V2 N l) (Q84 l):=by
 refine TotP.tot ?_;unfold V2;refine TotP.bindE (v:=⟨1048576,32⟩) (.of fun _=>rfl) ?_;refine TotP.bind (Qv0 l hl) (fun v hv => .ret ?_);rw [Yk];exact hv
theorem Z0d (s:List UInt8) (hs:s.length≤maxLen):Any (fun N=>We N s):=by
 have hm:=Q65;unfold We;refine Q6n (L:=fun N n (q:Int×Int)=>Y5 N s n q.1 q.2) (fun q=>∃ i:Nat,q.2=(i:Int)∧i≤s.length) (fun q=>s.length - q.2.toNat) ?_ (0,0) ⟨0,rfl,Mg _⟩
 rintro ⟨o,j⟩ ⟨i,hj,hi⟩
 simp only at hj
 subst hj;show Stp _ _ _ (fun N n=>cond (Q5 .lss (i:Int) (s.length:Int)) _ _);rw [Qq];dsimp only;refine Stp.cond (fun hx=>?_) (fun _=>Stp.ret trivial);have hx:=of_decide_eq_true hx
 have hi:i<s.length:=by omega
 refine Stp.idx (Zg hi) ?_
 have e1:wrap .i64 ((i:Int)+1)=((i+1:Nat):Int):=by rw [w64 _ (by omega)];omega
 rw [e1];exact Stp.go (L:=fun N n (q:Int×Int)=>Y5 N s n q.1 q.2) (_,((i+1:Nat):Int)) ⟨⟨i+1,rfl,by omega⟩,by simp;omega⟩
theorem Qul (s:List UInt8) (hs:s.length≤maxLen):TotP (fun N=>Wp N s) (fun v=>v.2=Q5n s):=by
 unfold Wp Q5n;rw [Y8];refine TotP.cond (fun h => .ret ?_) (fun h=>?_)
 ·have:¬ s.length=2:=fun e=>(of_decide_eq_true h) (by omega);rw [decide_eq_false this];rfl
 have h:s.length=2:=by have:=of_decide_eq_false h;omega
 rw [decide_eq_true h];refine TotP.bindE (Q7v s hs) ?_;refine TotP.cond (fun g => .ret (by simpa using g)) (fun g=>?_);exact TotP.bind (Z0d s hs) (fun _ _ => .ret (by simpa using g))
def snB (e:Qc):Bool:=cond (decide (e.Proto≠3)) (decide (e.Type'=0∧e.Hops.length=0)) (Qng e)
theorem Zh8 {e:Qc} (ht:e.Topic.length≤maxLen) (hl:e.Hops.length≤30):Tot (fun N=>Wx N e) (snB e):=by
 refine TotP.tot ?_;unfold Wx snB Qng;rw [Y8];refine TotP.cond (fun g=>?_) (fun g=>?_)
 ·rw [g];show TotP _ (fun r=>r=decide (e.Type'=0∧e.Hops.length=0));rw [Yk,Yk,Q6];refine TotP.cond (fun g2 => .ret ?_) (fun g2 => .ret ?_)
  ·have:=of_decide_eq_true g2
   by_cases h:e.Hops.length=0
   ·rw [decide_eq_true (by omega),decide_eq_true ⟨this,h⟩]
   rw [decide_eq_false (by omega),decide_eq_false (by omega)]
  have:=of_decide_eq_false g2;rw [decide_eq_false (by omega)]
 rw [g];show TotP _ (fun r=>r=(decide (0≤e.Type'∧e.Type'≤2)&&((!(decide (e.Type'=2))||Q5n e.Topic)&&Q84 e.Hops)));refine TotP.bind (Qul _ ht) (fun v hv=>?_);rw [Jh,G9,Y8,hv];refine TotP.cond (fun g1=>?_) (fun g1 => .ret ?_)
 ·have g1:=of_decide_eq_true g1;refine TotP.cond (fun g2=>?_) (fun g2 => .ret ?_)
  ·have g2:=of_decide_eq_true g2;rw [decide_eq_true (p:=0≤e.Type'∧e.Type'≤2) ⟨g1,g2⟩];refine TotP.bindE (Qwm _ hl) ?_;refine TotP.cond (fun g3=>?_) (fun g3 => .ret (by rw [g3];simp));rw [g3];refine TotP.cond (fun g4 => .ret ?_) (fun g4 => .ret ?_)
   ·rw [decide_eq_false (p:=e.Type'=2) (of_decide_eq_true g4)];rfl
   rw [decide_eq_true (p:=e.Type'=2) (by have:=of_decide_eq_false g4;omega)];simp
  have g2:=of_decide_eq_false g2;rw [decide_eq_false (p:=0≤e.Type'∧e.Type'≤2) (by omega)];rfl
 have g1:=of_decide_eq_false g1;rw [decide_eq_false (p:=0≤e.Type'∧e.Type'≤2) (by omega)];rfl
open Classical in
theorem Qxz {e:Qc} (hpk:Quf e.Packet) (hs:Q2.szs e.Frame.Values<700000000):Tot (fun N=>Yo N e) (Q52 e):=by
 have key:TotP (fun N=>Yo N e) (fun v=>v=true↔e.Packet=zPk∧e.Msg=zMk∧e.Frame=zFk):=by
  unfold Yo;refine TotP.bind (Q9w e.Packet zPk hpk) (fun v hv=>?_);refine TotP.cond (fun g=>?_) (fun g => .ret ⟨fun h=>absurd h (by decide),fun h=>absurd (hv.2 h.1) (by rw [g];decide)⟩)
  refine TotP.cond (fun g2=>?_) (fun g2 => .ret ⟨fun h=>absurd h (by decide),fun h=>absurd ((Qna e.Msg zMk).2 h.2.1) (by
   intro h3;have:false=true:=g2.symm.trans h3;cases this)⟩)
  refine TotP.bind (V:=fun v=>v=true↔e.Frame=zFk) ⟨decide (e.Frame=zFk),decide_eq_true_iff,800000000,fun N hN=>Q9x hN _ _ hs⟩ (fun w hw => .ret ⟨fun h=>⟨hv.1 g,(Qna e.Msg zMk).1 g2,hw.1 h⟩,fun h=>hw.2 h.2.2⟩)
 obtain ⟨v,hv,ht⟩:=key
 have:v=Q52 e:=by
  unfold Q52
  by_cases h:e.Packet=zPk∧e.Msg=zMk∧e.Frame=zFk
  ·rw [hv.2 h,decide_eq_true h]
  rw [decide_eq_false h]
  cases v with
  | false=>rfl
  | true=>exact absurd (hv.1 rfl) h
 rw [← this];exact ht
theorem rJ5 {N:Nat} {e:Qc} (hs:Wx N e=some (snB e)) (s:Bool):Y1 N (Qi N e) e s=Qi N e (s||(decide (0<e.Props.length∧e.Proto≠2) || !(snB e))):=by
 have j6:∀ q,Yf N (Qi N e) e q=Qi N e (q || !(snB e)):=fun q=>by
  unfold Yf;rw [hs];cases q<;>rfl
 unfold Y1;simp only [j6,W9,Y8,Q6]
 cases s with
 | true=>rfl
 | false=>
  show cond (decide ((e.Props.length:Int)>0)) _ _=Qi N e (decide _||_);refine Q25 (fun g=>?_) (fun g=>?_)
  ·have g:=of_decide_eq_true g
   by_cases h:e.Proto≠2
   ·rw [decide_eq_true h,decide_eq_true (p:=0<e.Props.length∧e.Proto≠2) ⟨by omega,h⟩]
   rw [decide_eq_false h,decide_eq_false (p:=0<e.Props.length∧e.Proto≠2) (fun x=>h x.2)]
  rw [decide_eq_false (p:=0<e.Props.length∧e.Proto≠2) (by have:=of_decide_eq_false g;omega)]
section
variable {N:Nat} {e:Qc} {b:Bool} {v:Int} (hn:Yp N e.Topic=some (Jd e.Topic)) (hs:Wx N e=some (snB e)) (hb:Yo N e=some b) (hv:Xn N 3 e.Props=some v)
def Qst (v:Int) (s:Bool):Option Int:=cond s (some 2) (cond (decide (v≠0)) (some 9) (some 0))
include hv
theorem rJ7 (s:Bool):Zd N e s=Qst v s:=by
 unfold Zd Qst;rw [hv];simp only [Lh,Y8]
include hb
theorem rJ4 (s:Bool):Qi N e s=Qst v (s||(!(decide ((0≤e.Channel∧e.Channel≤65535)∧(e.Channel≠0→e.Proto=4))&&b))):=by
 unfold Qi;simp only [rJ7 hv,hb,Lh,Qq,W9,Y8]
 cases s with
 | true=>rfl
 | false=>
  show cond (decide (e.Channel<0)) _ _=Qst v (!(decide _&&b));refine Q25 (fun g=>?_) (fun g=>?_)
  ·rw [decide_eq_false (p:=_∧_) (by have:=of_decide_eq_true g;omega)];rfl
  have g:=of_decide_eq_false g;refine Q25 (fun g2=>?_) (fun g2=>?_)
  ·rw [decide_eq_false (p:=_∧_) (by have:=of_decide_eq_true g2;omega)];rfl
  have g2:=of_decide_eq_false g2;refine Q25 (fun g3=>?_) (fun g3=>?_)
  ·have g3:=of_decide_eq_true g3;refine Q25 (fun g4=>?_) (fun g4=>?_)
   ·rw [decide_eq_false (p:=(0≤e.Channel∧e.Channel≤65535)∧(e.Channel≠0→e.Proto=4)) (fun h=>of_decide_eq_true g4 (h.2 g3))];rfl
   rw [decide_eq_true (p:=_∧_) ⟨by omega,fun _=>by have:=of_decide_eq_false g4;omega⟩];rfl
  rw [decide_eq_true (p:=_∧_) ⟨by omega,fun h=>absurd h (of_decide_eq_false g3)⟩];rfl
include hs
def Qj8 (e:Qc) (b a:Bool):Bool:=(e.Dup&&(!a&&decide (e.Proto≠3)))||(decide (0<e.Props.length∧e.Proto≠2) || !(snB e))||(!(decide ((0≤e.Channel∧e.Channel≤65535)∧(e.Channel≠0→e.Proto=4))&&b))
theorem rJ3 (a s:Bool):Ze N e a s=Qst v (s||Qj8 e b a):=by
 unfold Ze;simp only [rJ5 hs,rJ4 hb hv,Y8];unfold Qj8
 cases s with
 | true=>rfl
 | false=>cases e.Dup<;>cases a<;>rfl
theorem rJ2 (least:Int) (a:Bool):Zp N e least a=Qst v (!(decide ((least≤e.QoS∧e.QoS≤2)∧(0≤e.ID∧e.ID≤65535)∧decide (e.ID≠0)=a))||Qj8 e b a):=by
 unfold Zp;simp only [rJ3 hs hb hv,Y8,Qq,W9];refine Q25 (fun g=>?_) (fun g=>?_)
 ·rw [decide_eq_false (p:=_∧_) (by have:=of_decide_eq_true g;omega)];rfl
 have g:=of_decide_eq_false g;refine Q25 (fun g2=>?_) (fun g2=>?_)
 ·rw [decide_eq_false (p:=_∧_) (by have:=of_decide_eq_true g2;omega)];rfl
 have g2:=of_decide_eq_false g2;refine Q25 (fun g3=>?_) (fun g3=>?_)
 ·rw [decide_eq_false (p:=_∧_) (by have:=of_decide_eq_true g3;omega)];rfl
 have g3:=of_decide_eq_false g3;refine Q25 (fun g4=>?_) (fun g4=>?_)
 ·rw [decide_eq_false (p:=_∧_) (by have:=of_decide_eq_true g4;omega)];rfl
 have g4:=of_decide_eq_false g4
 by_cases h:decide (e.ID≠0)=a
 ·rw [decide_eq_true (p:=_∧_) ⟨by omega,by omega,h⟩,h];simp
 rw [decide_eq_false (p:=_∧_) (fun x=>h x.2.2)]
 have:(decide (e.ID≠0) == a)=false:=by simpa using h
 rw [this]
include hn
theorem Zj5 (hbe:b=Q52 e):Zt N e=some (Q53 e v):=by
 have j1:∀ l,Yh N e l=Zp N e l (cq e):=fun l=>by
  unfold Yh cq;rw [Yk,Yk];cases decide (e.QoS=1)<;>rfl
 have j0:∀ s,Zo N e s=cond s (some 2) (cond (!(Jd e.Topic)) (some 10) (Zp N e (if e.Proto=3 then -1 else 0) (cq e))):=fun s=>by
  unfold Zo;rw [hn];simp only [Lh,j1,Yk]
  cases s with
  | true=>rfl
  | false=>
   show cond (!Jd e.Topic) _ _=cond (!Jd e.Topic) _ _
   congr 1
   refine Q25 (fun g=>?_) (fun g=>?_)
   ·rw [if_pos (of_decide_eq_true g)]
   rw [if_neg (of_decide_eq_false g)]
 have top:Zt N e=Zo N e (!(decide ((e.Proto=1∨e.Proto=2∨e.Proto=3∨e.Proto=4)∧e.Kind=1))):=by
  unfold Zt;rw [Qq,W9,Y8];refine Q25 (fun g=>?_) (fun g=>?_)
  ·rw [decide_eq_false (p:=_∧_) (by have:=of_decide_eq_true g;omega)];rfl
  have g:=of_decide_eq_false g;refine Q25 (fun g2=>?_) (fun g2=>?_)
  ·rw [decide_eq_false (p:=_∧_) (by have:=of_decide_eq_true g2;omega)];rfl
  have g2:=of_decide_eq_false g2
  by_cases h:e.Kind=1
  ·rw [decide_eq_false (p:=e.Kind≠1) (by omega),decide_eq_true (p:=_∧_) ⟨by omega,h⟩];rfl
  rw [decide_eq_true (p:=e.Kind≠1) h,decide_eq_false (p:=_∧_) (fun x=>h x.2)];rfl
 rw [top,j0,rJ2 hs hb hv];unfold Q53
 by_cases h1:(e.Proto=1∨e.Proto=2∨e.Proto=3∨e.Proto=4)∧e.Kind=1
 ·rw [if_neg (not_not_intro h1),decide_eq_true h1]
  cases hw:Jd e.Topic with
  | false=>rfl
  | true=>
   rw [if_neg (show ¬ ((true:Bool)=false) from fun h=>by cases h)];show Qst v _=_
   have key:(!(decide (((if e.Proto=3 then -1 else 0)≤e.QoS∧e.QoS≤2)∧(0≤e.ID∧e.ID≤65535)∧decide (e.ID≠0)=cq e))||Qj8 e b (cq e))=false↔PubT e (cq e) (Qng e) (Q52 e):=by
    unfold Qj8;simp only [Bool.or_eq_false_iff,Bool.not_eq_false',decide_eq_true_eq,Lb,Ch,decide_eq_false_iff_not];constructor
    ·rintro ⟨⟨q1,q2,q3⟩,⟨q4,q5,q6⟩,q7,q8⟩
     refine ⟨h1.1,h1.2,?_,q2,q3.symm,fun d=>?_,fun hp=>?_,fun p3=>?_,fun p3=>?_,q7.1,q7.2,by rw [← hbe];exact q8⟩
     ·by_cases p3:e.Proto=3
      ·rw [if_pos p3] at q1;by_cases e.QoS = -1
       ·exact .inr ⟨p3,by assumption⟩
       exact .inl (by omega)
      rw [if_neg p3] at q1;exact .inl q1
     ·rcases q4 with q4 | q4 | q4
      ·rw [q4] at d;cases d
      ·exact .inl (by cases hc:cq e with
       | true=>rfl
       | false=>rw [hc] at q4;cases q4)
      exact .inr (by omega)
     ·exact Decidable.byContradiction fun hh=>q5 ⟨hp,hh⟩
     ·unfold snB at q6;rw [decide_eq_false (p:=e.Proto≠3) (by omega)] at q6;exact q6
     unfold snB at q6;rw [decide_eq_true (p:=e.Proto≠3) p3] at q6;exact of_decide_eq_true q6
    rintro ⟨p1,p2,p3,p4,p5,p6,p7,p8,p9,p10,p11,p12⟩
    refine ⟨⟨?_,p4,p5.symm⟩,⟨?_,?_,?_⟩,⟨p10,p11⟩,by rw [hbe];exact p12⟩
    ·by_cases q:e.Proto=3
     ·rw [if_pos q];omega
     rw [if_neg q];omega
    ·cases hd:e.Dup with
     | false=>exact .inl rfl
     | true=>
      rcases p6 hd with h | h
      ·exact .inr (.inl (by rw [h]))
      exact .inr (.inr (by omega))
    ·exact fun x=>x.2 (p7 x.1)
    unfold snB
    by_cases q:e.Proto=3
    ·rw [decide_eq_false (p:=e.Proto≠3) (by omega)];exact p8 q
    rw [decide_eq_true (p:=e.Proto≠3) q];exact decide_eq_true (p9 q)
   by_cases h2:PubT e (cq e) (Qng e) (Q52 e)
   ·rw [if_neg (not_not_intro h2),key.2 h2];unfold Qst
    by_cases h3:v=0
    ·rw [if_neg (not_not_intro h3),decide_eq_false (p:=v≠0) (by omega)];rfl
    rw [if_pos h3,decide_eq_true (p:=v≠0) h3];rfl
   rw [if_pos h2]
   have:(!(decide (((if e.Proto=3 then -1 else 0)≤e.QoS∧e.QoS≤2)∧(0≤e.ID∧e.ID≤65535)∧decide (e.ID≠0)=cq e))||Qj8 e b (cq e))=true:=by
    cases hh:(!(decide (((if e.Proto=3 then -1 else 0)≤e.QoS∧e.QoS≤2)∧(0≤e.ID∧e.ID≤65535)∧decide (e.ID≠0)=cq e))||Qj8 e b (cq e)) with
    | true=>rfl
    | false=>exact absurd (key.1 hh) h2
   rw [this];rfl
 rw [if_pos h1,decide_eq_false h1];rfl
end
theorem Qwg {e:Qc} {v:Int} (h:LE e) (hv:Tot (fun N=>Xn N 3 e.Props) v):Tot (fun N=>Zt N e) (Q53 e v):=by
 obtain ⟨N1,hn⟩:=Q7v e.Topic (Mw h.topic ml2);obtain ⟨N2,hs⟩:=Zh8 (e:=e) (Mw h.topic ml2) h.dg.hops;obtain ⟨N3,hb⟩:=Qxz h.pk.l h.szs;obtain ⟨N4,hv⟩:=hv;exact ⟨max (max N1 N2) (max N3 N4),fun N hN=>Zj5 (hn N (by omega)) (hs N (by omega)) (hb N (by omega)) (hv N (by omega)) rfl⟩
end
end Go.Av
namespace Go.Av
noncomputable section
def Qw7 (du re:Bool) (q ty:Int):Qp:=⟨du,q,re,false,false,ty⟩
def Q7m (du re:Bool) (q ty id mid:Int) (pl:List UInt8):Wh:=⟨12,Qw7 du re q ty,0,0,0,false,id,mid,0,[],pl⟩
def Qwh (N:Nat) (c:Qa):Option (Unit×Qa):=(Z8 N c).bind fun v66=>(Y2 N v66.2).bind fun v68=>(Qs N v68.2).bind fun v70=>(Ye N v70.2).bind fun v72=>some ((),v72.2)
theorem Qt9 (N:Nat) (c:Qa) (k:c.m.Type'=12):Qy N c=Qwh N c:=by
 unfold Qy;simp only [k];rfl
section
variable {du re:Bool} {q ty id mid:Int} {pl:List UInt8}
theorem Qu2 (hq : -1≤q∧q≤2) (ht:0≤ty∧ty≤2):TotP (fun N=>U3 N (Qw7 du re q ty)) (fun v=>v.2=0):=by
 unfold U3;show TotP (fun N=>cond (Q5 .lss q (-1)) _ (cond (Q5 .gtr q 2) _ (cond (Q5 .lss ty 0) _ (cond (Q5 .gtr ty 2) _ _)))) _;rw [Qq,W9,Qq,W9];refine TotP.cond (fun g=>absurd (of_decide_eq_true g) (by omega)) (fun _=>?_);refine TotP.cond (fun g=>absurd (of_decide_eq_true g) (by omega)) (fun _=>?_);refine TotP.cond (fun g=>absurd (of_decide_eq_true g) (by omega)) (fun _=>?_);refine TotP.cond (fun g=>absurd (of_decide_eq_true g) (by omega)) (fun _=>?_)
 repeat' first
  | exact TotP.ret rfl
  | refine TotP.cond (fun _=>?_) (fun _=>?_)
theorem Zf4 (hq : -1≤q∧q≤2) (ht:0≤ty∧ty≤2):Tot (fun N=>Gt N 12 (Qw7 du re q ty)) true:=by
 refine TotP.tot ?_;have j:TotP (fun N=>Ud N 12 (Qw7 du re q ty) false) (· = true):=⟨true,rfl,.of fun N=>rfl⟩;unfold Gt;refine TotP.bind (Qu2 hq ht) (fun v hv=>?_);rw [hv];refine TotP.cond (fun g=>absurd (show false=true from g) (by decide)) (fun _=>?_);exact TotP.cond (fun _=>j) (fun _=>j)
def Qyc (du re:Bool) (q ty:Int):Wh:=⟨12,Qw7 du re q ty,0,0,0,false,0,0,0,[],[]⟩
theorem Z7e:Qc0 .i64 1 16=65536:=by decide
theorem Zhs (hq : -1≤q∧q≤2) (ht:0≤ty∧ty≤2) (hid:0≤id∧id≤65535) (hm:0≤mid∧mid≤65535) :
  Tot (fun N=>Qy N ⟨2,Q7m du re q ty id mid pl,[],false⟩) ((),⟨2,Qyc du re q ty,[],false⟩):=by
 refine TotP.tot ?_
 have e:(fun N=>Qy N ⟨2,Q7m du re q ty id mid pl,[],false⟩)=fun N=>Qwh N ⟨2,Q7m du re q ty id mid pl,[],false⟩:=by funext N;exact Qt9 N _ rfl
 rw [e];unfold Qwh;refine TotP.bindE (v:=((),⟨2,Q7m du re q ty id mid pl,[],false⟩)) ?_ ?_
 ·refine TotP.tot ?_;unfold Z8;refine TotP.bind (Qu2 hq ht) (fun v hv=>?_);exact TotP.cond (fun _ => .ret rfl) (fun g=>absurd (show true=false from g) (by decide))
 refine TotP.bindE (v:=((),⟨2,Q7m du re q ty 0 mid pl,[],false⟩)) ?_ ?_
 ·refine TotP.tot ?_;show TotP (fun N=>cond (Q5 .lss id 0) _ (some ((),(⟨2,_,[],Q5 .geq id (Qc0 .i64 1 16)⟩:Qa)))) _;rw [Qq,Jh,Z7e,decide_eq_false (p:=id≥65536) (by omega)];exact TotP.cond (fun g=>absurd (of_decide_eq_true g) (by omega)) (fun _ => .ret rfl)
 refine TotP.bindE (v:=((),⟨2,Q7m du re q ty 0 0 pl,[],false⟩)) ?_ ?_
 ·refine TotP.tot ?_;show TotP (fun N=>cond (Q5 .lss mid 0) _ (some ((),(⟨2,_,[],Q5 .geq mid (Qc0 .i64 1 16)⟩:Qa)))) _;rw [Qq,Jh,Z7e,decide_eq_false (p:=mid≥65536) (by omega)];exact TotP.cond (fun g=>absurd (of_decide_eq_true g) (by omega)) (fun _ => .ret rfl)
 exact ⟨_,rfl,.of fun N=>rfl⟩
theorem Qzh {B:Nat} (m:Wh) (o:List Int) (n:Int) (w:Nat) (hw:1≤w∧w≤2) (ho:o.length≤B) (hB:B≤10000):TotP (fun N=>(Zy N n (w:Int)).bind fun v8=>
  cond (!(Nat.beq v8.length 0)) (cond (Nat.ble ((o.length+v8.length+4096) * 1) 17592186044416) (some ((),(⟨1,m,(o++(v8.map fun b=>(b.toNat:Int))),false⟩:Qa))) none) none) (fun r=>∃ o',r.2=⟨1,m,o',false⟩∧o'.length≤B+2):=by
 refine TotP.bind (Qap n w hw.1 (by omega)) (fun v hv=>?_)
 refine TotP.chk (by cases hb:Nat.beq v.length 0 with
  | false=>rfl
  | true=>have:=Ni hb;omega) ?_
 exact TotP.chk (by rw [Lx];omega) (.ret ⟨_,rfl,by rw [Lu,Mf];omega⟩)
theorem Zgq (hq : -1≤q∧q≤2) (ht:0≤ty∧ty≤2) (hpl:pl.length≤2000) :
  TotP (fun N=>Qy N ⟨1,Q7m du re q ty id mid pl,[],false⟩) (fun r=>r.2.out.length≤3000):=by
 have e:(fun N=>Qy N ⟨1,Q7m du re q ty id mid pl,[],false⟩)=fun N=>Qwh N ⟨1,Q7m du re q ty id mid pl,[],false⟩:=by funext N;exact Qt9 N _ rfl
 rw [e];unfold Qwh;refine TotP.bind (V:=fun r=>∃ o',r.2=⟨1,Q7m du re q ty id mid pl,o',false⟩∧o'.length≤0+2) ?_ ?_
 ·unfold Z8;refine TotP.bind (Qu2 hq ht) (fun v hv=>?_);exact Qzh (B:=0) (Q7m du re q ty id mid pl) [] (wrap .u64 v.1) 1 (by omega) (Ll _) (by omega)
 rintro ⟨_,c⟩ ⟨o,rfl,ho⟩
 have hi:TotP (fun N=>Y2 N ⟨1,Q7m du re q ty id mid pl,o,false⟩) (fun r=>∃ o',r.2=⟨1,Q7m du re q ty id mid pl,o',false⟩∧o'.length≤0+2+2):=Qzh (Q7m du re q ty id mid pl) o (wrap .u64 id) 2 (by omega) ho (by omega);refine TotP.bind hi ?_;clear hi
 rintro ⟨_,c⟩ ⟨o,rfl,ho⟩
 have hi:TotP (fun N=>Qs N ⟨1,Q7m du re q ty id mid pl,o,false⟩) (fun r=>∃ o',r.2=⟨1,Q7m du re q ty id mid pl,o',false⟩∧o'.length≤0+2+2+2):=Qzh (Q7m du re q ty id mid pl) o (wrap .u64 mid) 2 (by omega) ho (by omega);refine TotP.bind hi ?_;clear hi
 rintro ⟨_,c⟩ ⟨o,rfl,ho⟩
 refine TotP.bind (V:=fun r=>r.2.out.length≤3000) ?_ (fun r hr => .ret hr);show TotP (fun N=>cond (Nat.beq pl.length 0) (some ((),(⟨1,Q7m du re q ty id mid pl,o,false⟩:Qa))) (cond (Nat.ble ((o.length+pl.length+4096) * 1) 17592186044416) (some ((),(⟨1,Q7m du re q ty id mid pl,(o++(pl.map fun b=>(b.toNat:Int))),false⟩:Qa))) none)) _;refine TotP.cond (fun _ => .ret (by show o.length≤3000;omega)) (fun _=>?_);exact TotP.chk (by rw [Lx];omega) (.ret (by show (o++_).length≤3000;rw [Lu,Mf];omega))
theorem Qwo (hq : -1≤q∧q≤2) (ht:0≤ty∧ty≤2) (hpl:pl.length≤2000):TotP (fun N=>V9 N (Q7m du re q ty id mid pl)) (fun l=>l.length≤3000):=by
 unfold V9;exact TotP.bind (Zgq hq ht hpl) (fun v hv => .ret (by rw [Mf];exact hv))
theorem Qsk (n:Int) (hn:0≤n∧n≤3000):TotP (fun N=>Xg N 12 n) (fun x=>x.2=0∧x.1.length≤100):=by
 unfold Xg;refine TotP.bindE (v:=true) (.of fun _=>rfl) ?_;rw [Qq,W9];refine TotP.cond (fun g=>absurd (show false=true from g) (by decide)) (fun _=>?_);refine TotP.cond (fun g=>absurd (of_decide_eq_true g) (by omega)) (fun _=>?_);refine TotP.cond (fun g=>absurd (of_decide_eq_true g) (by omega)) (fun _=>?_)
 repeat' first
  | exact TotP.ret ⟨rfl,by simp only [Lu];omega⟩
  | refine TotP.bind (Q97 _ _) (fun v hv=>?_)
  | refine TotP.chk (by rw [Lx];(first | omega | (simp only [Lu];omega))) ?_
  | refine TotP.cond (fun _=>?_) (fun _=>?_)
theorem Qwt (hid:0≤id∧id≤65535) (hn:Jd (Q6x id.toNat 2)=true):TotP (fun N=>Ws N id) (fun v=>v.2=true):=by
 have h7:=ml7;unfold Ws;rw [Qq,W9,Zem (by omega)];refine TotP.cond (fun g=>absurd (of_decide_eq_true g) (by omega)) (fun _=>?_);refine TotP.cond (fun g=>absurd (of_decide_eq_true g) (by omega)) (fun _=>?_);refine TotP.bindE (v:=Q6x id.toNat 2) ⟨11,fun N hN=>?_⟩ ?_
 ·have:=Qv5 N id.toNat 2 (by omega) (by omega) (by omega);rw [Int.toNat_of_nonneg hid.1] at this;exact this
 refine TotP.bindE (Q46 _ (by rw [Q4c];omega)) ?_;rw [hn];exact TotP.cond (fun g=>absurd (show false=true from g) (by decide)) (fun _ => .ret rfl)
variable (hq : -1≤q∧q≤2) (ht:0≤ty∧ty≤2) (hid:0≤id∧id≤65535) (hm:0≤mid∧mid≤65535) (hmq:mid≠0↔q>0) (hn:ty=2→Jd (Q6x id.toNat 2)=true) (hn2:ty≠2→1≤id∧id≤65534) (hpl:pl.length≤2000)
include hq ht hid hm hmq hn hn2 hpl
theorem Qxu:Tot (fun N=>Ur N (Q7m du re q ty id mid pl)) 0:=by
 refine TotP.tot ?_;unfold Ur;refine TotP.bindE (v:=true) (.of fun _=>rfl) ?_;refine TotP.cond (fun g=>absurd (show false=true from g) (by decide)) (fun _=>?_);refine TotP.bindE (Zf4 hq ht) ?_;refine TotP.cond (fun g=>absurd (show false=true from g) (by decide)) (fun _=>?_);refine TotP.bindE (v:=false) (.of fun _=>rfl) ?_;refine TotP.cond (fun g=>absurd (show false=true from g) (by decide)) (fun _=>?_);refine TotP.bindE (Zhs hq ht hid hm) ?_;refine TotP.cond (fun g=>absurd (show false=true from g) (by decide)) (fun _=>?_);refine TotP.cond (fun g=>?_) (fun _=>?_)
 ·exfalso;simp [Qyc,Q7m,Qw7] at g
 refine TotP.bindE (v:=true) (.of fun N=>?_) ?_
 ·show some ((Q5 .neq mid 0) == (Q5 .gtr q 0))=some true;rw [Y8,W9]
  by_cases h:q>0
  ·rw [decide_eq_true h,decide_eq_true (hmq.2 h)];rfl
  rw [decide_eq_false h,decide_eq_false (fun x=>h (hmq.1 x))];rfl
 refine TotP.cond (fun g=>absurd (show false=true from g) (by decide)) (fun _=>?_);refine TotP.bindE (v:=0) (TotP.tot ?_) ?_
 ·show TotP (fun N=>cond (Q5 .eql ty 2) ((Ws N id).bind fun v19=>cond (!v19.2) (some 10) (some 0)) (cond (Q5 .lss id 1) (some 2) (cond (Q5 .gtr id 65534) (some 2) (some 0)))) _;rw [Yk,Qq,W9];refine TotP.cond (fun g=>?_) (fun g=>?_)
  ·refine TotP.bind (Qwt hid (hn (of_decide_eq_true g))) (fun v hv=>?_);rw [hv];exact TotP.cond (fun g=>absurd (show false=true from g) (by decide)) (fun _ => .ret rfl)
  have:=hn2 (of_decide_eq_false g);refine TotP.cond (fun g=>absurd (of_decide_eq_true g) (by omega)) (fun _=>?_);exact TotP.cond (fun g=>absurd (of_decide_eq_true g) (by omega)) (fun _ => .ret rfl)
 refine TotP.cond (fun g=>absurd (show false=true from g) (by decide)) (fun _=>?_);refine TotP.bindE (v:=0) (.of fun _=>rfl) ?_;refine TotP.cond (fun g=>absurd (show false=true from g) (by decide)) (fun _=>?_);refine TotP.bind (Qwo hq ht hpl) (fun v hv=>?_);exact TotP.bind (Qsk _ (by omega)) (fun w hw => .ret hw.1)
theorem Qy8:TotP (fun N=>Xw N (Q7m du re q ty id mid pl)) (fun r=>r.2=0∧r.1.length≤4000):=by
 unfold Xw;refine TotP.bindE (Qxu hq ht hid hm hmq hn hn2 hpl) ?_;refine TotP.cond (fun g=>absurd (show false=true from g) (by decide)) (fun _=>?_);refine TotP.bind (Qwo hq ht hpl) (fun v hv=>?_);refine TotP.bind (Qsk _ (by omega)) (fun w hw=>?_);rw [hw.1];refine TotP.cond (fun g=>absurd (show false=true from g) (by decide)) (fun _=>?_);have:=hw.2;exact TotP.chk (by rw [Lx];omega) (.ret ⟨rfl,by simp only [Lu];omega⟩)
theorem Qzx:Tot (fun N=>Zv N ⟨[],Q7m du re q ty id mid pl⟩ ⟨1048576,32⟩) 0:=by
 refine TotP.tot ?_
 have l2:∀ v:List UInt8×Int,v.1.length≤4000→TotP (fun N=>Zk N ⟨[],Q7m du re q ty id mid pl⟩ ⟨1048576,32⟩ v N [] 0) (fun r=>r.2=0):=fun v hv=>by
  refine Q6n (L:=fun N n (q':List UInt8×Int)=>Zk N ⟨[],Q7m du re q ty id mid pl⟩ ⟨1048576,32⟩ v n q'.1 q'.2) (fun q'=>q'=([],0)) (fun _=>0) ?_ ([],0) rfl
  rintro _ rfl
  have e2:wrap .i64 ((([]:List UInt8).length:Int)+(v.1.length:Int))=(v.1.length:Int):=by rw [w64 _ (by simp;omega)];simp
  show Stp _ _ _ (fun N n=>cond false _ (cond (Q5 .gtr (wrap .i64 ((([]:List UInt8).length:Int)+(v.1.length:Int))) 1048576) _ _));rw [e2,W9];refine Stp.cond (fun g=>by cases g) (fun _=>?_);refine Stp.cond (fun g=>absurd (of_decide_eq_true g) (by omega)) (fun _=>?_);exact Stp.chk (by rw [Lx];simp;omega) (Stp.ret rfl)
 have l0:TotP (fun N=>Y3 N ⟨[],Q7m du re q ty id mid pl⟩ ⟨1048576,32⟩ N 0) (fun r=>r.2=0):=by
  refine Q5o (L:=fun N n i=>Y3 N ⟨[],Q7m du re q ty id mid pl⟩ ⟨1048576,32⟩ n i) 0 (fun _=>True) (fun i hi _=>by omega) (fun _=>?_) trivial;show Stp _ _ _ (fun N n=>cond false _ _);refine Stp.cond (fun g=>by cases g) (fun _=>Stp.fin ?_);refine TotP.bind (Qy8 hq ht hid hm hmq hn hn2 hpl) (fun v hv=>?_);rw [hv.1];exact TotP.cond (fun g=>absurd (show false=true from g) (by decide)) (fun _=>l2 v hv.2)
 unfold Zv J7;refine TotP.bind (V:=fun r=>r.2=0) ?_ (fun v hv => .ret hv);refine TotP.bindE (v:=true) (.of fun _=>rfl) ?_;refine TotP.cond (fun g=>absurd (show false=true from g) (by decide)) (fun _=>?_);exact TotP.cond (fun g=>absurd (show false=true from g) (by decide)) (fun _=>l0)
end
def Qb8 (R:Reg):Prop:=∀ z∈R,∀ p∈z.2.ids,1≤p.2∧p.2≤65534
theorem Qgf {c:List UInt8}:∀ (l:List (List UInt8×Int)) (n i:Nat) (v:Int),Q0z c n l=some (i,v)→(c,v)∈l
 | [],n,i,v,h=>by simp [Q0z] at h
 | (k,x)::l,n,i,v,h=>by
  simp only [Q0z] at h;split at h
  ·rename_i e;cases h;rw [← e];exact List.mem_cons_self ..
  exact List.mem_cons_of_mem _ (Qgf l _ _ _ h)
theorem Qxt {R:Reg} (h:Qb8 R) (c n:List UInt8) (h0:(rID R c n).2=0):1≤(rID R c n).1∧(rID R c n).1≤65534:=by
 unfold rID at h0 ⊢
 cases hc:J2 c 0 R with
 | none=>rw [hc] at h0;exact absurd (show (11:Int)=0 from h0) (by decide)
 | some y=>
  obtain ⟨i,C⟩:=y;rw [hc] at h0
  simp only at h0 ⊢
  cases hi:Q0z n 0 C.ids with
  | none=>rw [hi] at h0;exact absurd (show (11:Int)=0 from h0) (by decide)
  | some z=>exact h _ (Q8c hc) _ (Qgf _ _ _ _ hi)
theorem Qhj (all:List (Int×List UInt8×Bool)):∀ (N:Nat) (s id nx:Int),Q3v all N s=some (id,nx)→id=0∨(1≤id∧id≤65534)
 | 0,s,id,nx,h=>by simp [Q3v] at h
 | N+1,s,id,nx,h=>by
  simp only [Q3v] at h;split at h
  ·split at h
   ·split at h
    ·cases h;omega
    exact Qhj all N _ _ _ h
   cases h;exact .inl rfl
  cases h
theorem Qov {R:Reg} (h:Qb8 R) (c:List UInt8) {C:RCl} (hC:∀ p∈C.ids,1≤p.2∧p.2≤65534):Qb8 (Qtd R c C):=by
 unfold Qtd;split
 ·intro z hz
  rcases Mc.1 hz with hz | hz
  ·exact h z hz
  rw [Bl.1 hz];exact hC
 intro z hz
 rcases Bu hz with hz | hz
 ·exact h z hz
 rw [hz];exact hC
theorem Qqa {R:Reg} (h:Qb8 R) {c:List UInt8} {C:RCl} (hC:Qnd R c=some C):∀ p∈C.ids,1≤p.2∧p.2≤65534:=by
 unfold Qnd at hC
 cases hc:J2 c 0 R with
 | none=>rw [hc] at hC;cases hC
 | some y=>obtain ⟨i,D⟩:=y;rw [hc] at hC;cases hC;exact h _ (Q8c hc)
theorem Qtu (ok:List UInt8→Bool) {R:Reg} (h:Qb8 R) (t:List UInt8×List UInt8×Int):Qb8 (Qdf ok R t):=by
 unfold Qdf;split
 ·unfold Qnk;split
  ·refine Qov h _ ?_
   cases hg:Qnd R t.1 with
   | none=>intro p hp;rw [Bl.1 hp];show (1:Int)≤1∧(1:Int)≤65534;decide
   | some C=>
    have hC:=Qqa h hg;simp only [Qql];split
    ·exact hC
    split
    ·rename_i id nx hl;split
     ·exact hC
     rename_i hne;intro p hp
     rcases Mc.1 hp with hp | hp
     ·exact hC p hp
     rw [Bl.1 hp]
     rcases Qhj _ _ _ _ _ hl with q | q
     ·exact absurd q hne
     exact q
    exact hC
  exact h
 unfold Qqj;split
 ·split
  ·rename_i hr;refine Qov h _ ?_
   cases hg:Qnd R t.1 with
   | none=>intro p hp;rw [Bl.1 hp];exact hr
   | some C=>
    have hC:=Qqa h hg;simp only [Qqf];split
    ·split<;>exact hC
    split
    ·exact hC
    intro p hp
    rcases Mc.1 hp with hp | hp
    ·exact hC p hp
    rw [Bl.1 hp];exact hr
  exact h
 exact h
theorem Qp2 (ok:List UInt8→Bool):∀ (l:List (List UInt8×List UInt8×Int)) (R:Reg),Qb8 R→Qb8 (l.foldl (Qdf ok) R)
 | [],_,h=>h
 | t::l,_,h=>Qp2 ok l _ (Qtu ok h t)
end
end Go.Av
namespace Go.Av
noncomputable section
theorem LE.oks7 {e:Qc} (h:LE e):Z5w e:=⟨by have:=h.props.len;have:=ml2;omega,by have:=h.dg.hops;have:=ml2;have h2:e.Hops.length≤30:=h.dg.hops;omega,h.pk.l,h.szs⟩
open Classical in
theorem Qdz {e:Qc} {v p:Int} (h0:Q53 e v=0) (hp:pOk p) (h3:p≠3) (hq:0≤e.QoS) (hd:e.Dup=false):Q53 (there p e false 0) 0=0:=by
 obtain ⟨⟨hn,hP⟩,_,_,_⟩:=Qfb h0
 have hP':PubT (there p e false 0) (cq (there p e false 0)) (Qng (there p e false 0)) (Q52 (there p e false 0)):=by
  refine ⟨hp,rfl,?_,hP.id,hP.cid,fun d=>Bool.noConfusion (show false=true from d),fun h=>absurd h (Nat.lt_irrefl 0),fun h=>absurd h h3,fun _=>⟨rfl,rfl⟩,⟨Int.le_refl 0,by show (0:Int)≤65535;decide⟩,fun h=>absurd rfl h,?_⟩
  ·rcases hP.qos with h | h
   ·exact .inl h
   omega
  unfold Q52;exact decide_eq_true ⟨rfl,rfl,rfl⟩
 unfold Q53;rw [if_neg (not_not_intro ⟨hp,rfl⟩),if_neg (show ¬ Jd (there p e false 0).Topic=false by show ¬ Jd e.Topic=false;rw [hn];decide),if_neg (not_not_intro hP'),if_neg (not_not_intro rfl)]
open Classical in
theorem Qoq {e:Qc} {v ty:Int} (h0:Q53 e v=0) (hq:0≤e.QoS) (hd:e.Dup=false) (ht:0≤ty∧ty≤2) (hs:ty=2→e.Topic.length=2):Q53 (there 3 e false ty) 0=0:=by
 obtain ⟨⟨hn,hP⟩,_,_,_⟩:=Qfb h0
 have hP':PubT (there 3 e false ty) (cq (there 3 e false ty)) (Qng (there 3 e false ty)) (Q52 (there 3 e false ty)):=by
  refine ⟨.inr (.inr (.inl rfl)),rfl,?_,hP.id,hP.cid,fun d=>Bool.noConfusion (show false=true from d),fun h=>absurd h (Nat.lt_irrefl 0),fun _=>?_,fun h=>absurd rfl h,⟨Int.le_refl 0,by show (0:Int)≤65535;decide⟩,fun h=>absurd rfl h,?_⟩
  ·rcases hP.qos with h | h
   ·exact .inl h
   omega
  ·show (decide (0≤ty∧ty≤2)&&((!(decide (ty=2))||Q5n e.Topic)&&true))=true;rw [decide_eq_true ht]
   by_cases h:ty=2
   ·unfold Q5n;rw [decide_eq_true (hs h),hn];simp
   rw [decide_eq_false h];rfl
  unfold Q52;exact decide_eq_true ⟨rfl,rfl,rfl⟩
 unfold Q53;rw [if_neg (not_not_intro ⟨.inr (.inr (.inl rfl)),rfl⟩),if_neg (show ¬ Jd (there 3 e false ty).Topic=false by show ¬ Jd e.Topic=false;rw [hn];decide),if_neg (not_not_intro hP'),if_neg (not_not_intro rfl)]
def Q7n (R:Reg) (cl tp:List UInt8):Int:=if tp.length=2 then 2 else if Q1i R cl (rID R cl tp).1=true then 1 else 0
theorem Qs2 (s:List UInt8) (hs:s.length=2) (hn:Jd s=true):Tot (fun N=>Vd N ⟨⟩ s) ((Qaf s:Nat),true):=by
 have h7:=ml7;have hlt:=Qd1 s;rw [hs] at hlt;refine TotP.tot ?_;unfold Vd G4;refine TotP.bind (V:=fun v=>v=(((Qaf s:Nat):Int),true)) ?_ (fun v hv => .ret (by rw [hv]));rw [Y8];refine TotP.cond (fun g=>absurd (of_decide_eq_true g) (by omega)) (fun _=>?_);refine TotP.bindE (Q46 s (by omega)) ?_;rw [hn];refine TotP.cond (fun g=>absurd (show false=true from g) (by decide)) (fun _=>?_);refine TotP.bindE (v:=((Qaf s:Nat):Int)) ⟨11,fun N hN=>Qvc N s (by omega) (by omega)⟩ (.ret ?_);rw [w64 _ (by omega)]
section
variable {R:Reg} (cl:List UInt8) {e:Qc} {v:Int} (h:LE e) (h0:Q53 e v=0) (hq:0≤e.QoS) (hd:e.Dup=false) (hR:Qb8 R)
include h h0 hq hd hR
theorem Qug (hok:e.Topic.length=2∨(rID R cl e.Topic).2=0):TotP (fun N=>Yu N R cl (there 3 e false (Q7n R cl e.Topic))) (fun r=>r.2=R∧r.1.2=0):=by
 obtain ⟨⟨hn,hP⟩,_,_,_⟩:=Qfb h0;have hpl:e.Payload.length≤2000:=h.payload
 have hq2:e.QoS≤2:=by rcases hP.qos with q | q<;>omega
 have hty:0≤Q7n R cl e.Topic∧Q7n R cl e.Topic≤2:=by unfold Q7n;split;decide;split<;>decide
 have hty2:Q7n R cl e.Topic=2→e.Topic.length=2:=by
  unfold Q7n;split
  ·intro _;assumption
  split<;>intro h<;>exact absurd h (by decide)
 have hpub:=Qoq h0 hq hd hty hty2
 have hmq:e.ID≠0↔e.QoS>0:=by
  have:=hP.cid;unfold cq at this
  by_cases q1:e.QoS=1
  ·rw [decide_eq_true q1] at this;exact ⟨fun _=>by omega,fun _=>of_decide_eq_true this.symm⟩
  rw [decide_eq_false q1] at this
  by_cases q2:e.QoS=2
  ·rw [decide_eq_true q2] at this;exact ⟨fun _=>by omega,fun _=>of_decide_eq_true this.symm⟩
  rw [decide_eq_false q2] at this;exact ⟨fun x=>absurd x (of_decide_eq_false this.symm),fun _=>by omega⟩
 have hc:=Qsm (h.there 3 false (Q7n R cl e.Topic)) Qmb rfl;rw [if_neg (not_not_intro hpub),if_neg (show ¬ ((there 3 e false (Q7n R cl e.Topic)).Payload.length:Int)>1048576 by show ¬ ((e.Payload.length:Int)>1048576);omega)] at hc
 have fin:∀ id:Int,0≤id∧id≤65535→(Q7n R cl e.Topic=2→Jd (Q6x id.toNat 2)=true)→(Q7n R cl e.Topic≠2→1≤id∧id≤65534)→TotP (fun N=>(X3 N).bind fun v33=>(Zv N (⟨[],Q7m false e.Retain e.QoS (Q7n R cl e.Topic) id e.ID e.Payload⟩:Qm) v33).bind fun v35=>
   cond (Q5 .neq v35 0) (some (((⟨[],zMk⟩:Qm),v35),R)) (some (((⟨[],Q7m false e.Retain e.QoS (Q7n R cl e.Topic) id e.ID e.Payload⟩:Qm),0),R))) (fun r=>r.2=R∧r.1.2=0):=fun id i1 i2 i3=>by
  refine TotP.bindE (v:=⟨1048576,32⟩) (.of fun _=>rfl) ?_;refine TotP.bindE (Qzx ⟨by omega,hq2⟩ hty i1 hP.id hmq i2 i3 hpl) ?_;exact TotP.cond (fun g=>absurd (show false=true from g) (by decide)) (fun _ => .ret ⟨rfl,rfl⟩)
 unfold Yu;refine TotP.cond (fun g=>absurd (show false=true from g) (by decide)) (fun _=>?_);refine TotP.bindE (v:=⟨1048576,32⟩) (.of fun _=>rfl) ?_;refine TotP.bindE hc ?_;refine TotP.cond (fun g=>absurd (show false=true from g) (by decide)) (fun _=>?_);refine TotP.bindE (v := []) (.of fun N=>Qpk _ (show ([]:List V0).length≤30 by decide) N) ?_;refine TotP.cond (fun _=>?_) (fun g=>absurd (show true=false from g) (by decide));show TotP (fun N=>cond (Q5 .eql (Q7n R cl e.Topic) 2) _ (cond (Q5 .eql (Q7n R cl e.Topic) 1) _ _)) _;rw [Yk,Yk];refine TotP.cond (fun g=>?_) (fun g=>?_)
 ·have t2:=of_decide_eq_true g;have hl:=hty2 t2;have hlt:=Qd1 e.Topic;rw [hl] at hlt;refine TotP.bindE (Qs2 e.Topic hl hn) ?_;refine TotP.cond (fun g=>absurd (show false=true from g) (by decide)) (fun _=>?_);refine fin _ (by omega) (fun _=>?_) (fun x=>absurd t2 x);rw [Lw];have:=Qjf e.Topic;rw [hl] at this;rw [this];exact hn
 have t2:=of_decide_eq_false g;have hl:¬ e.Topic.length=2:=fun x=>t2 (by unfold Q7n;rw [if_pos x]);have hid:(rID R cl e.Topic).2=0:=hok.resolve_left hl;have hr:=Qxt hR cl e.Topic hid
 have hn0:Q5 .neq (rID R cl e.Topic).2 0=false:=by rw [Y8,decide_eq_false (by omega)]
 refine TotP.cond (fun g=>?_) (fun g=>?_)
 ·have t1:=of_decide_eq_true g
  have hf:Q1i R cl (rID R cl e.Topic).1=true:=Decidable.byContradiction fun x=>by
   unfold Q7n at t1;rw [if_neg hl,if_neg x] at t1;exact absurd t1 (by decide)
  refine TotP.bindE (v:=(rID R cl e.Topic,R)) (.of fun _=>rfl) ?_;refine TotP.cond (fun g=>absurd (hn0.symm.trans g) (by decide)) (fun _=>?_);refine TotP.bindE (v:=(Q1i R cl (rID R cl e.Topic).1,R)) (.of fun _=>rfl) ?_;rw [hf];refine TotP.cond (fun g=>absurd (show false=true from g) (by decide)) (fun _=>?_);exact fin (rID R cl e.Topic).1 (by omega) (fun x=>absurd x t2) (fun _=>hr)
 have t1:=of_decide_eq_false g
 have hf:Q1i R cl (rID R cl e.Topic).1=false:=by
  cases hx:Q1i R cl (rID R cl e.Topic).1 with
  | false=>rfl
  | true=>exact absurd (by unfold Q7n;rw [if_neg hl,if_pos hx]) t1
 refine TotP.bindE (v:=(rID R cl e.Topic,R)) (.of fun _=>rfl) ?_;refine TotP.cond (fun g=>absurd (hn0.symm.trans g) (by decide)) (fun _=>?_);refine TotP.bindE (v:=(Q1i R cl (rID R cl e.Topic).1,R)) (.of fun _=>rfl) ?_;rw [hf];refine TotP.cond (fun g=>absurd (show false=true from g) (by decide)) (fun _=>?_);exact fin (rID R cl e.Topic).1 (by omega) (fun x=>absurd x t2) (fun _=>hr)
variable (hv:Tot (fun N=>Xc N 3 e.Props) v) (hpr:e.Props = [])
include hv hpr
theorem Z08 (he:e.Proto≠3):Tot (fun N=>Zl N R cl e 3) (if e.Topic.length=2∨(rID R cl e.Topic).2=0 then ((there 3 e false (Q7n R cl e.Topic),0),R) else ((zEk,15),R)):=by
 have gtr:Q5 .gtr ((Q9 Zq.cells e.Props).length:Int) 0=false:=by rw [hpr];rfl
 refine TotP.tot ?_;unfold Zl;refine TotP.cond (fun g=>absurd (show false=true from g) (by decide)) (fun _=>?_);refine TotP.cond (fun g=>absurd (show false=true from g) (by decide)) (fun _=>?_);refine TotP.cond (fun _=>?_) (fun g=>absurd (show true=false from g) (by decide));refine TotP.bindE (Qlz h hv) ?_;rw [h0,Yk,gtr,Yk];refine TotP.cond (fun g=>absurd (show false=true from g) (by decide)) (fun _=>?_);refine TotP.cond (fun g=>absurd (of_decide_eq_true g).symm he) (fun _=>?_);refine TotP.cond (fun g=>absurd g (by decide)) (fun _=>?_)
 have ret:∀ ty,ty=Q7n R cl e.Topic→(e.Topic.length=2∨(rID R cl e.Topic).2=0)→TotP (fun N=>(Yu N R cl (there 3 e e.Dup ty)).bind fun v30=>cond (Q5 .neq v30.1.2 0) (some ((zEk,(15:Int)),v30.2)) (some ((there 3 e e.Dup ty,(0:Int)),v30.2)))
   (fun r=>r=(if e.Topic.length=2∨(rID R cl e.Topic).2=0 then ((there 3 e false (Q7n R cl e.Topic),0),R) else ((zEk,15),R))):=fun ty hty hok=>by
  subst hty;rw [if_pos hok,hd];refine TotP.bind (Qug cl h h0 hq hd hR hok) (fun r hr=>?_);rw [hr.2,hr.1];exact TotP.cond (fun g=>absurd (show false=true from g) (by decide)) (fun _ => .ret rfl)
 refine TotP.cond (fun g=>?_) (fun g=>?_)
 ·have hl:e.Topic.length=2:=by have:=of_decide_eq_true g;omega
  exact ret 2 (by unfold Q7n;rw [if_pos hl]) (.inl hl)
 have hl:¬ e.Topic.length=2:=fun e2=>(of_decide_eq_false g) (by omega);refine TotP.bindE (v:=(rID R cl e.Topic,R)) (.of fun _=>rfl) ?_;rw [Y8];refine TotP.cond (fun g => .ret ?_) (fun g=>?_)
 ·have hne:¬ (rID R cl e.Topic).2=0:=of_decide_eq_true g;rw [if_neg (fun x=>x.elim hl hne)];rfl
 have hid:(rID R cl e.Topic).2=0:=Decidable.byContradiction fun x=>of_decide_eq_false g x;refine TotP.bindE (v:=(Q1i R cl (rID R cl e.Topic).1,R)) (.of fun _=>rfl) ?_;refine TotP.cond (fun g=>?_) (fun g=>?_)
 ·exact ret 1 (by unfold Q7n;rw [if_neg hl,if_pos g]) (.inr hid)
 exact ret 0 (by unfold Q7n;rw [if_neg hl,if_neg (by intro h2;rw [show Q1i R cl (rID R cl e.Topic).1=false from g] at h2;cases h2)]) (.inr hid)
end
theorem Qua {R:Reg} (cl:List UInt8) {e:Qc} {v:Int} (h:LE e) (h0:Q53 e v=0) (hq:0≤e.QoS) (hd:e.Dup=false) (hv:Tot (fun N=>Xc N 3 e.Props) v) (hpr:e.Props = []) {p:Int} (hp:pOk p) (h3:p≠3) (he:p≠e.Proto):Tot (fun N=>Zl N R cl e p) ((there p e false 0,0),R):=by
 obtain ⟨r,⟨hR,hr⟩,ht⟩:=Qqo R cl p h hv;obtain ⟨⟨x,err⟩,R'⟩:=r
 simp only at hR hr
 subst hR
 cases hr with
 | arg g=>exact absurd hp g
 | bad _ g=>exact absurd h0 g
 | own _ _ g=>exact absurd g he
 | loss _ _ _ why=>
  exfalso
  rcases why with g | g | g
  ·exact g hpr
  ·omega
  exact h3 g.1
 | plain=>rw [hd] at ht;exact ht
 | sn g=>exact absurd g h3
def Qlj (client topic:List UInt8) (e:Qc) (N:Nat) (R:Reg):Option Bool:=
  (Zl N R client e 4).bind fun v148=>
  (Xt N v148.2 client topic).bind fun v150=>
  cond (Q5 .neq v148.1.2 0)
  (some false)
  ((Zc N v150.2 client e 4).bind fun v153=>
  cond (!v153.1)
  (some false)
  ((Zl N v153.2 client v148.1.1 2).bind fun v156=>
  (Xt N v156.2 client topic).bind fun v158=>
  cond (Q5 .neq v156.1.2 0)
  (some false)
  ((Zc N v158.2 client v148.1.1 2).bind fun v161=>
  cond (!v161.1)
  (some false)
  ((Zl N v161.2 client v156.1.1 3).bind fun v164=>
  (Xt N v164.2 client topic).bind fun v166=>
  cond (Q5 .neq v166.1.2 0)
  (cond (Q5 .neq (topic.length:Int) 2)
  (cond (Q5 .neq v164.1.2 15)
  (some false)
  ((Zl N v166.2 client v156.1.1 1).bind fun v171=>
  (Xt N v171.2 client topic).bind fun v173=>
  cond (Q5 .neq v171.1.2 0)
  (some false)
  ((Zc N v173.2 client v156.1.1 1).bind fun v176=>
  cond (!v176.1)
  (some false)
  ((Qo N v171.1.1 e).bind fun v179=>
  some v179))))
  (cond (Q5 .neq v164.1.2 0)
  (some false)
  ((Zc N v166.2 client v156.1.1 3).bind fun v182=>
  cond (!v182.1)
  (some false)
  ((Zl N v182.2 client v164.1.1 1).bind fun v185=>
  (Xt N v185.2 client topic).bind fun v187=>
  cond (Q5 .neq v185.1.2 0)
  (some false)
  ((Zc N v187.2 client v164.1.1 1).bind fun v190=>
  cond (!v190.1)
  (some false)
  ((Qo N v185.1.1 e).bind fun v193=>
  some v193))))))
  (cond (Q5 .neq v164.1.2 0)
  (some false)
  ((Zc N v166.2 client v156.1.1 3).bind fun v196=>
  cond (!v196.1)
  (some false)
  ((Zl N v196.2 client v164.1.1 1).bind fun v199=>
  (Xt N v199.2 client topic).bind fun v201=>
  cond (Q5 .neq v199.1.2 0)
  (some false)
  ((Zc N v201.2 client v164.1.1 1).bind fun v204=>
  cond (!v204.1)
  (some false)
  ((Qo N v199.1.1 e).bind fun v207=>
  some v207)))))))))
theorem Qm4 (client:List UInt8) {e:Qc} (R:Reg) (hR:Qb8 R) (h:LE e) (h0:Q53 e 0=0) (hq:0≤e.QoS) (he:e=there 1 e false 0):TotP (fun N=>Qlj client e.Topic e N R) (· = true):=by
 have hd:e.Dup=false:=by rw [he];rfl
 have hpr:e.Props = []:=by rw [he];rfl
 have hp1:e.Proto=1:=by rw [he];rfl
 have hv:Tot (fun N=>Xc N 3 e.Props) 0:=by rw [hpr];exact Qmb
 have no:∀ {f g:Nat→Option Bool},TotP g (· = true)→TotP (fun N=>cond (Q5 .neq 0 0) (f N) (g N)) (· = true):=fun hg=>TotP.cond (fun g=>absurd (show false=true from g) (by decide)) (fun _=>hg);have no2:∀ {f g:Nat→Option Bool},TotP g (· = true)→TotP (fun N=>cond (!(decide ((0:Int)=0))) (f N) (g N)) (· = true):=fun hg=>TotP.cond (fun g=>absurd (show false=true from g) (by decide)) (fun _=>hg)
 -- to AMQP
 let e1:=there 4 e false 0
 have l1:LE e1:=h.there 4 false 0;have p1:Q53 e1 0=0:=Qdz h0 (.inr (.inr (.inr rfl))) (by decide) hq hd;have t1:=Qua (R:=R) client h h0 hq hd hv hpr (p:=4) (.inr (.inr (.inr rfl))) (by decide) (by omega)
 -- to MQTT 5
 let e2:=there 2 e1 false 0
 have l2:LE e2:=l1.there 2 false 0;have p2:Q53 e2 0=0:=Qdz p1 (.inr (.inl rfl)) (by decide) hq rfl;have t2:=Qua (R:=R) (e:=e1) client l1 p1 hq rfl Qmb rfl (p:=2) (.inr (.inl rfl)) (by decide) (by show (2:Int)≠4;decide);have t3:=Z08 (R:=R) (e:=e2) client l2 p2 hq rfl hR Qmb rfl (by show (2:Int)≠3;decide);have same:TotP (fun N=>(Qo N e e).bind fun v=>some v) (· = true):=TotP.bind (Qg3 e e h.oks7) (fun v hv => .ret (hv.2 rfl));unfold Qlj;refine TotP.bindE t1 ?_;refine TotP.bindE (v:=(rID R client e.Topic,R)) (.of fun _=>rfl) ?_;refine no ?_;refine TotP.bindE (Q8f R client 4 t1 rfl) ?_;refine no2 ?_;refine TotP.bindE t2 ?_;refine TotP.bindE (v:=(rID R client e.Topic,R)) (.of fun _=>rfl) ?_;refine no ?_;refine TotP.bindE (Q8f R client 2 t2 rfl) ?_;refine no2 ?_;refine TotP.bindE t3 ?_
 have last:∀ (x:Qc),LE x→Q53 x 0=0→x.QoS=e.QoS→x.Dup=false→x.Props = []→x.Proto≠1→there 1 x false 0=e→TotP (fun N=>(Zl N R client x 1).bind fun v185=>(Xt N v185.2 client e.Topic).bind fun v187=>cond (Q5 .neq v185.1.2 0) (some false)
   ((Zc N v187.2 client x 1).bind fun v190=>cond (!v190.1) (some false) ((Qo N v185.1.1 e).bind fun v193=>some v193))) (· = true):=fun x lx px qx dx prx nx ex=>by
  have t4:=Qua (R:=R) client lx px (by rw [qx];exact hq) dx (by rw [prx];exact Qmb) prx (p:=1) (.inl rfl) (by decide) (fun g=>nx g.symm);refine TotP.bindE t4 ?_;refine TotP.bindE (v:=(rID R client e.Topic,R)) (.of fun _=>rfl) ?_;refine no ?_;refine TotP.bindE (Q8f R client 1 t4 rfl) ?_;refine no2 ?_;show TotP (fun N=>(Qo N (there 1 x false 0) e).bind fun v=>some v) _;rw [ex];exact same
 have et:e2.Topic=e.Topic:=rfl;have b1:there 1 e2 false 0=e:=he.symm
 by_cases hok:e.Topic.length=2∨(rID R client e.Topic).2=0
 ·rw [et,if_pos hok] at t3 ⊢
  have hty:0≤Q7n R client e.Topic∧Q7n R client e.Topic≤2:=by unfold Q7n;split;decide;split<;>decide
  have hty2:Q7n R client e.Topic=2→e.Topic.length=2:=by
   unfold Q7n;split
   ·intro _;assumption
   split<;>intro h<;>exact absurd h (by decide)
  have tail:TotP (fun N=>cond (Q5 .neq 0 0) (some false) ((Zc N R client e2 3).bind fun v182=>cond (!v182.1) (some false) ((Zl N v182.2 client (there 3 e2 false (Q7n R client e.Topic)) 1).bind fun v185=>(Xt N v185.2 client e.Topic).bind fun v187=>cond (Q5 .neq v185.1.2 0) (some false)
   ((Zc N v187.2 client (there 3 e2 false (Q7n R client e.Topic)) 1).bind fun v190=>cond (!v190.1) (some false) ((Qo N v185.1.1 e).bind fun v193=>some v193))))) (· = true):=by
   refine no ?_;refine TotP.bindE (Q8f R client 3 t3 rfl) ?_;refine no2 ?_;exact last _ (l2.there 3 false _) (Qoq p2 hq rfl hty hty2) rfl rfl rfl (by show (3:Int)≠1;decide) b1
  refine TotP.bindE (v:=(rID R client e.Topic,R)) (.of fun _=>rfl) ?_;rw [Y8,Y8];refine TotP.cond (fun g=>?_) (fun _=>tail);refine TotP.cond (fun g2=>?_) (fun _=>tail);exfalso
  rcases hok with q | q
  ·exact (of_decide_eq_true g2) (by omega)
  exact (of_decide_eq_true g) q
 rw [et,if_neg hok] at t3 ⊢;refine TotP.bindE (v:=(rID R client e.Topic,R)) (.of fun _=>rfl) ?_;rw [Y8,Y8];refine TotP.cond (fun _=>?_) (fun g=>absurd (.inr (Decidable.byContradiction fun x=>of_decide_eq_false g x)) hok);refine TotP.cond (fun _=>?_) (fun g=>absurd (.inl (by have:=of_decide_eq_false g;omega)) hok);refine TotP.cond (fun g=>absurd (show false=true from g) (by decide)) (fun _=>?_);exact last e2 l2 p2 rfl rfl rfl (by show (2:Int)≠1;decide) b1
theorem Qh2:Tot (fun N=>Xn N 3 []) 0 := .of fun N=>rfl
def ev0 (topic payload:List UInt8) (q:Int) (r:Bool) (id:Int):Qc:=⟨1,1,topic,payload,q,r,false,id,[],0,[],0,zPk,zMk,zFk⟩
theorem le0 {topic payload:List UInt8} {q:Int} {r:Bool} {id:Int} (h1:topic.length≤2000) (h2:payload.length≤2000):LE (ev0 topic payload q r id):=
 ⟨h1,h2,⟨Mg _,fun x hx=>nomatch hx⟩,Qti,⟨Mg _,(fun x hx=>nomatch hx),⟨Mg _,Mg _⟩⟩,⟨(fun x hx=>nomatch hx),(by show Q2.szs []<_;decide),(by show Q2.wgts []<_;decide)⟩⟩
theorem Que (t:List Q8) (client topic payload:List UInt8) (qos:Int) (retain:Bool) (ht:t.length≤maxLen):∃ N,X8 N t client topic payload qos retain=some true:=by
 have hm:200≤maxLen:=by unfold maxLen;decide
 have ids:Qb8 (Qn0 Jd (Qf4 t)):=Qp2 Jd _ _ (fun z hz=>nomatch hz)
 have key:TotP (fun N=>X8 N t client topic payload qos retain) (· = true):=by
  unfold X8;refine TotP.bindE (v:=true) (.of fun _=>rfl) ?_;refine TotP.cond (fun h=>by cases h) (fun _=>?_);refine TotP.bind (Qvy t ht) (fun v hv=>?_);refine TotP.cond (fun _ => .ret rfl) (fun g=>?_);obtain ⟨h1,h2⟩:=hv (by simpa using g);refine TotP.cond (fun _ => .ret rfl) (fun _=>?_);rw [W9,W9];refine TotP.cond (fun _ => .ret rfl) (fun g1=>?_);refine TotP.cond (fun _ => .ret rfl) (fun g2=>?_)
  have h3:topic.length≤2000:=by have:=of_decide_eq_false g1;omega
  have h4:payload.length≤2000:=by have:=of_decide_eq_false g2;omega
  refine TotP.bindE (v:=qos % 3) (.of fun N=>Qvb N qos 3 (by omega) (by omega)) ?_;have hq:0≤qos % 3:=Int.emod_nonneg _ (by omega);generalize qos % 3=q at hq
  have go:∀ (id:Int) (L:Nat→Nat→Int→List Q0→Reg→Option Bool),(∀ N n i c R,L N (n+1) i c R=cond (Q5 .lss i (t.length:Int)) (Qoj t N i c R (L N n)) (Qlj client topic (ev0 topic payload q retain id) N R)) →
    TotP (fun N=>(Zt N (ev0 topic payload q retain id)).bind fun v13=>cond (Q5 .neq v13 0) (some true) (L N N 0 [] [])) (· = true):=fun id L hL=>by
   have hle:=le0 (q:=q) (r:=retain) (id:=id) h3 h4;refine TotP.bindE (Qwg hle Qh2) ?_;rw [Y8];refine TotP.cond (fun _ => .ret rfl) (fun g=>?_)
   have h0:Q53 (ev0 topic payload q retain id) 0=0:=by have:=of_decide_eq_false g;omega
   exact Qnb (K:=fun N R=>Qlj client topic (ev0 topic payload q retain id) N R) h1 (fun y hy=>Mw (h2 y hy) hm) hL (Qm4 client (e:=ev0 topic payload q retain id) _ ids hle h0 hq rfl)
  refine TotP.cond (fun _=>?_) (fun _=>?_)
  ·refine go _ (fun N n i c' R=>Zm N t client topic payload retain q n i c' R) (fun N n i c' R=>?_);show cond (Q5 .lss i ((Q9 Q8.cells t).length:Int)) _ _=_;rw [Q6];rfl
  refine go _ (fun N n i c' R=>Zn N t client topic payload retain q n i c' R) (fun N n i c' R=>?_);show cond (Q5 .lss i ((Q9 Q8.cells t).length:Int)) _ _=_;rw [Q6];rfl
 obtain ⟨N,hN⟩:=key.tot;exact ⟨N,hN N (Ll _)⟩
end
end Go.Av
