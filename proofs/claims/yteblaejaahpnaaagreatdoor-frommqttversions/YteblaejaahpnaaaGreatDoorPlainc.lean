/- Part of the proof of FrommqttVersions: for every input the law returns true; no condition. -/
import Derived.Test.YteblaejaahpnaaaGreatDoorAvOwn
import Derived.Test.YteblaejaahpnaaaGreatDoorLift2
import Derived.Test.YteblaejaahpnaaaGreatDoorLiftF2
import Derived.Test.YteblaejaahpnaaaGreatDoorPlainb
import Derived.Test.YteblaejaahpnaaaGreatDoorPlain
import Derived.Test.YteblaejaahpnaaaGreatDoorOkX
set_option linter.all false
open Go.IntKind (wrap)
namespace Go.Av
noncomputable section
section
variable {R A S T:Type}
def Tot (f:Nat→Option R) (r:R):Prop:=∃ N0,∀ N,N0≤N→f N=some r
def TotP (f:Nat→Option R) (Q:R→Prop):Prop:=∃ r,Q r∧Tot f r
theorem Tot.of {f:Nat→Option R} {r:R} (h:∀ N,f N=some r):Tot f r:=⟨0,fun N _=>h N⟩
theorem Tot.ret (r:R):Tot (fun _=>some r) r := .of fun _=>rfl
theorem Tot.bind {f:Nat→Option A} {g:Nat→A→Option R} {v:A} {r:R} (h1:Tot f v) (h2:Tot (fun N=>g N v) r):Tot (fun N=>(f N).bind (g N)) r:=by
 obtain ⟨a,ha⟩:=h1;obtain ⟨b,hb⟩:=h2;exact ⟨max a b,fun N hN=>by show (f N).bind (g N)=_;rw [ha N (by omega)];exact hb N (by omega)⟩
theorem TotP.of {f:Nat→Option R} {r:R} {Q:R→Prop} (hq:Q r) (h:Tot f r):TotP f Q:=⟨r,hq,h⟩
theorem TotP.ret {r:R} {Q:R→Prop} (h:Q r):TotP (fun _=>some r) Q:=⟨r,h,.ret r⟩
theorem TotP.mono {f:Nat→Option R} {Q Q':R→Prop} (h:TotP f Q) (hq:∀ r,Q r→Q' r):TotP f Q':=by
 obtain ⟨r,h1,h2⟩:=h;exact ⟨r,hq r h1,h2⟩
theorem TotP.tot {f:Nat→Option R} {r:R} (h:TotP f (· = r)):Tot f r:=by obtain ⟨x,rfl,h2⟩:=h;exact h2
theorem TotP.bind {f:Nat→Option A} {g:Nat→A→Option R} {V:A→Prop} {Q:R→Prop} (h1:TotP f V) (h2:∀ v,V v→TotP (fun N=>g N v) Q):TotP (fun N=>(f N).bind (g N)) Q:=by
 obtain ⟨v,hv,t⟩:=h1;obtain ⟨r,hr,u⟩:=h2 v hv;exact ⟨r,hr,t.bind u⟩
theorem TotP.bindE {f:Nat→Option A} {g:Nat→A→Option R} {v:A} {Q:R→Prop} (h1:Tot f v) (h2:TotP (fun N=>g N v) Q):TotP (fun N=>(f N).bind (g N)) Q:=by
 obtain ⟨r,hr,u⟩:=h2;exact ⟨r,hr,h1.bind u⟩
theorem TotP.cond {b:Bool} {f g:Nat→Option R} {Q:R→Prop} (h1:b=true→TotP f Q) (h2:b=false→TotP g Q):TotP (fun N=>cond b (f N) (g N)) Q:=by
 cases b
 ·exact h2 rfl
 exact h1 rfl
theorem TotP.chk {b:Bool} {f:Nat→Option R} {Q:R→Prop} (hb:b=true) (h:TotP f Q):TotP (fun N=>_root_.cond b (f N) none) Q:=by subst hb;exact h
theorem TotP.idx {l:List T} {i:Int} {y:T} {g:Nat→T→Option R} {Q:R→Prop} (h:idx l i=some y) (h2:TotP (fun N=>g N y) Q):TotP (fun N=>(Go.Av.idx l i).bind (g N)) Q:=
 .bindE (.of fun _=>h) h2
theorem TotP.optC {o:Option T} {f:Nat→T→Option R} {z:Nat→Option R} {Q:R→Prop} (h1:∀ v,o=some v→TotP (fun N=>f N v) Q) (h2:o=none→TotP z Q):TotP (fun N=>Go.Av.optC o (f N) (z N)) Q:=by
 cases o with
 | none=>exact h2 rfl
 | some v=>exact h1 v rfl
def Stp (L:Nat→Nat→S→Option R) (P:S→Prop) (Q:R→Prop) (f:Nat→Nat→Option R):Prop:=
 (∃ r N0,Q r∧∀ N n,N0≤N→f N n=some r)∨∃ s N0,P s∧∀ N n,N0≤N→f N n=L N n s
section
variable {L:Nat→Nat→S→Option R} {P:S→Prop} {Q:R→Prop}
theorem Stp.fin {f:Nat→Option R} (h:TotP f Q):Stp L P Q (fun N _=>f N):=by
 obtain ⟨r,h1,N0,h2⟩:=h;exact .inl ⟨r,N0,h1,fun N _ hN=>h2 N hN⟩
theorem Stp.ret {r:R} (h:Q r):Stp L P Q (fun _ _=>some r) := .inl ⟨r,0,h,fun _ _ _=>rfl⟩
theorem Stp.go (s:S) (h:P s):Stp L P Q (fun N n=>L N n s) := .inr ⟨s,0,h,fun _ _ _=>rfl⟩
theorem Stp.bind {f:Nat→Option A} {g:Nat→Nat→A→Option R} {V:A→Prop} (h1:TotP f V) (h2:∀ v,V v→Stp L P Q (fun N n=>g N n v)):Stp L P Q (fun N n=>(f N).bind (g N n)):=by
 obtain ⟨v,hv,a,ha⟩:=h1
 rcases h2 v hv with ⟨r,b,hr,hb⟩ | ⟨s,b,hs,hb⟩
 ·exact .inl ⟨r,max a b,hr,fun N n hN=>by show (f N).bind _=_;rw [ha N (by omega)];exact hb N n (by omega)⟩
 exact .inr ⟨s,max a b,hs,fun N n hN=>by show (f N).bind _=_;rw [ha N (by omega)];exact hb N n (by omega)⟩
theorem Stp.idx {l:List T} {i:Int} {y:T} {g:Nat→Nat→T→Option R} (h:idx l i=some y) (h2:Stp L P Q (fun N n=>g N n y)):Stp L P Q (fun N n=>(Go.Av.idx l i).bind (g N n)):=
 .bind (f:=fun _=>Go.Av.idx l i) (V:=(· = y)) ⟨y,rfl,.of fun _=>h⟩ (fun v hv=>by subst hv;exact h2)
theorem Stp.cond {b:Bool} {f g:Nat→Nat→Option R} (h1:b=true→Stp L P Q f) (h2:b=false→Stp L P Q g):Stp L P Q (fun N n=>cond b (f N n) (g N n)):=by
 cases b
 ·exact h2 rfl
 exact h1 rfl
theorem Stp.chk {b:Bool} {f:Nat→Nat→Option R} (hb:b=true) (h:Stp L P Q f):Stp L P Q (fun N n=>_root_.cond b (f N n) none):=by subst hb;exact h
theorem Qce (inv:S→Prop) (μ:S→Nat) (Qr:∀ s,inv s→Stp L (fun s'=>inv s' ∧ μ s' < μ s) Q (fun N n=>L N (n+1) s)) (s:S) (h:inv s):TotP (fun N=>L N N s) Q:=by
 have key:∀ (m:Nat) (s:S),μ s<m→inv s→∃ r N0,Q r∧∀ N n,N0≤N→N0≤n→L N n s=some r:=by
  intro m
  induction m with
  | zero=>intro s h;omega
  | succ m ih=>
   intro s hm hi
   rcases Qr s hi with ⟨r,N0,hr,hL⟩ | ⟨s',N0,⟨h1,h2⟩,hL⟩
   ·refine ⟨r,N0+1,hr,fun N n h1 h2=>?_⟩;obtain ⟨k,rfl⟩:∃ k,n=k+1:=⟨n - 1,by omega⟩;exact hL N k (by omega)
   obtain ⟨r,M0,hr,hM⟩:=ih s' (by omega) h1;refine ⟨r,max N0 M0+1,hr,fun N n h1 h2=>?_⟩;obtain ⟨k,rfl⟩:∃ k,n=k+1:=⟨n - 1,by omega⟩;exact (hL N k (by omega)).trans (hM N k (by omega) (by omega))
 obtain ⟨r,N0,hr,hL⟩:=key (μ s+1) s (by omega) h;exact ⟨r,hr,N0,fun N hN=>hL N N hN hN⟩
end
theorem Qb2 {L:Nat→Nat→Int→Option R} {Q:R→Prop} (m:Nat) (J:Nat→Prop) (Qr:∀ i,i<m→J i→Stp L (fun s=>s=((i+1:Nat):Int)∧J (i+1)) Q (fun N n=>L N (n+1) (i:Int)))
  (fin:J m→Stp L (fun _=>False) Q (fun N n=>L N (n+1) (m:Int))) (h0:J 0):TotP (fun N=>L N N 0) Q:=by
 refine Qce (S:=Int) (fun s=>∃ i:Nat,s=(i:Int)∧i≤m∧J i) (fun s=>m - s.toNat) ?_ 0 ⟨0,rfl,Md _,h0⟩
 rintro s ⟨i,rfl,hi,hj⟩
 by_cases h:i<m
 ·rcases Qr i h hj with ⟨r,N0,hr,hL⟩ | ⟨s',N0,⟨rfl,h2⟩,hL⟩
  ·exact .inl ⟨r,N0,hr,hL⟩
  exact .inr ⟨_,N0,⟨⟨i+1,rfl,h,h2⟩,by simp only [Mz];omega⟩,hL⟩
 have:i=m:=by omega
 subst this
 rcases fin hj with ⟨r,N0,hr,hL⟩ | ⟨s',N0,h2,hL⟩
 ·exact .inl ⟨r,N0,hr,hL⟩
 exact h2.elim
end
theorem Qz (x y:Int):Q4 .lss x y=decide (x<y):=rfl
theorem Q01 (x y:Int):Q4 .leq x y=decide (x≤y):=rfl
theorem W6 (x y:Int):Q4 .gtr x y=decide (x>y):=rfl
theorem U4 (x y:Int):Q4 .geq x y=decide (x≥y):=rfl
theorem Xs (x y:Int):Q4 .eql x y=decide (x=y):=by unfold Q4;by_cases h:x=y<;>simp [h]
theorem Wd (x y:Int):Q4 .neq x y=decide (x≠y):=by unfold Q4;by_cases h:x=y<;>simp [h]
theorem w64 (x:Int) (h : -9223372036854775808≤x∧x≤9223372036854775807):wrap .i64 x=x:=IntWalk.i64_in x h
theorem Yq {T:Type} {l:List T} {i:Nat} (h:i<l.length):idx l (i:Int)=some l[i]:=Ld h
theorem Q3l:maxLen≤9223372036854775807:=by unfold maxLen;decide
end
end Go.Av
namespace Go.Av
noncomputable section
def at8 (s:List UInt8) (i:Nat):Nat:=(s.getD i 0).toNat
theorem Q4r (s:List UInt8) (i:Nat):at8 s i<256:=Ct _
theorem Q5e {s:List UInt8} {i:Nat} (h:i<s.length):at8 s i=(s[i]).toNat:=by simp [at8,h]
def goes (s:List UInt8) (i:Nat):Prop:=i<s.length∧128≤at8 s i∧at8 s i<192
instance (s:List UInt8) (i:Nat):Decidable (goes s i):=inferInstanceAs (Decidable (_∧_))
def Q6y (c:Nat):Prop:=¬ (55296≤c∧c≤57343)∧c≤1114111
instance (c:Nat):Decidable (Q6y c):=inferInstanceAs (Decidable (_∧_))
def Q3c (s:List UInt8) (i:Nat):Nat×Nat:=
 if at8 s i<128 then (at8 s i,1)
 else if 192≤at8 s i∧at8 s i<224∧goes s (i+1)∧128≤64 * (at8 s i - 192)+(at8 s (i+1) - 128) then (64 * (at8 s i - 192)+(at8 s (i+1) - 128),2)
 else if 224≤at8 s i∧at8 s i<240∧goes s (i+1)∧goes s (i+2)∧2048≤64 * (64 * (at8 s i - 224)+(at8 s (i+1) - 128))+(at8 s (i+2) - 128)∧Q6y (64 * (64 * (at8 s i - 224)+(at8 s (i+1) - 128))+(at8 s (i+2) - 128)) then
  (64 * (64 * (at8 s i - 224)+(at8 s (i+1) - 128))+(at8 s (i+2) - 128),3)
 else if 240≤at8 s i∧at8 s i<248∧goes s (i+1)∧goes s (i+2)∧goes s (i+3)∧65536≤64 * (64 * (64 * (at8 s i - 240)+(at8 s (i+1) - 128))+(at8 s (i+2) - 128))+(at8 s (i+3) - 128) ∧
   Q6y (64 * (64 * (64 * (at8 s i - 240)+(at8 s (i+1) - 128))+(at8 s (i+2) - 128))+(at8 s (i+3) - 128)) then
  (64 * (64 * (64 * (at8 s i - 240)+(at8 s (i+1) - 128))+(at8 s (i+2) - 128))+(at8 s (i+3) - 128),4)
 else (65533,1)
theorem Qel (c:Nat):Utf8.valid (c:Int)=true↔Q6y c:=by
 unfold Utf8.valid Q6y;simp only [Lb,Nt,Nr,decide_eq_true_eq,decide_eq_false_iff_not];omega
theorem Qmr (a b c d:Nat) (G1 G2 G3:Prop) [Decidable G1] [Decidable G2] [Decidable G3] (h0:a<256) (q1:G1→128≤b∧b<192) (q2:G2→128≤c∧c<192) (q3:G3→128≤d∧d<192) :
  (if a<128 then (a,1)
   else if (a / 32 == 6&&decide G1)=true then (if a % 32 * 64+b % 64≥128 then (a % 32 * 64+b % 64,2) else (65533,1))
   else if (a / 16 == 14&&decide G1&&decide G2)=true then (if (decide (a % 16 * 4096+b % 64 * 64+c % 64≥2048)&&Utf8.valid ((a % 16 * 4096+b % 64 * 64+c % 64:Nat):Int))=true then (a % 16 * 4096+b % 64 * 64+c % 64,3) else (65533,1))
   else if (a / 8 == 30&&decide G1&&decide G2&&decide G3)=true then (if (decide (a % 8 * 262144+b % 64 * 4096+c % 64 * 64+d % 64≥65536)&&Utf8.valid ((a % 8 * 262144+b % 64 * 4096+c % 64 * 64+d % 64:Nat):Int))=true then (a % 8 * 262144+b % 64 * 4096+c % 64 * 64+d % 64,4) else (65533,1))
   else (65533,1)) =
  (if a<128 then (a,1)
   else if 192≤a∧a<224∧G1∧128≤64 * (a - 192)+(b - 128) then (64 * (a - 192)+(b - 128),2)
   else if 224≤a∧a<240∧G1∧G2∧2048≤64 * (64 * (a - 224)+(b - 128))+(c - 128)∧Q6y (64 * (64 * (a - 224)+(b - 128))+(c - 128)) then (64 * (64 * (a - 224)+(b - 128))+(c - 128),3)
   else if 240≤a∧a<248∧G1∧G2∧G3∧65536≤64 * (64 * (64 * (a - 240)+(b - 128))+(c - 128))+(d - 128)∧Q6y (64 * (64 * (64 * (a - 240)+(b - 128))+(c - 128))+(d - 128)) then
    (64 * (64 * (64 * (a - 240)+(b - 128))+(c - 128))+(d - 128),4)
   else (65533,1)):=by
 simp only [Lb,decide_eq_true_eq,beq_iff_eq,Qel,ge_iff_le];have e2:∀ x,Q6y x=(¬ (55296≤x∧x≤57343)∧x≤1114111):=fun x=>rfl
 by_cases c1:a<128
 ·rw [if_pos c1,if_pos c1]
 rw [if_neg c1,if_neg c1]
 by_cases c2:a<192
 ·rw [if_neg (by omega),if_neg (by omega),if_neg (by omega),if_neg (by omega),if_neg (by omega),if_neg (by omega)]
 by_cases c3:a<224
 ·by_cases g1:G1
  ·have:=q1 g1
   have e:a % 32 * 64+b % 64=64 * (a - 192)+(b - 128):=by omega
   rw [if_pos ⟨by omega,g1⟩,e]
   by_cases c4:128≤64 * (a - 192)+(b - 128)
   ·rw [if_pos c4,if_pos ⟨by omega,c3,g1,c4⟩]
   rw [if_neg c4,if_neg (fun h=>c4 h.2.2.2),if_neg (by omega),if_neg (by omega)]
  rw [if_neg (fun h=>g1 h.2),if_neg (by omega),if_neg (by omega),if_neg (fun h=>g1 h.2.2.1),if_neg (by omega),if_neg (by omega)]
 rw [if_neg (by omega),if_neg (c:=192≤a∧_) (by omega)]
 by_cases c5:a<240
 ·by_cases g:G1∧G2
  ·have:=q1 g.1;have:=q2 g.2
   have e:a % 16 * 4096+b % 64 * 64+c % 64=64 * (64 * (a - 224)+(b - 128))+(c - 128):=by omega
   rw [if_pos ⟨⟨by omega,g.1⟩,g.2⟩,e]
   by_cases c4:2048≤64 * (64 * (a - 224)+(b - 128))+(c - 128)∧Q6y (64 * (64 * (a - 224)+(b - 128))+(c - 128))
   ·rw [if_pos c4,if_pos ⟨by omega,c5,g.1,g.2,c4⟩]
   rw [if_neg c4,if_neg (fun h=>c4 h.2.2.2.2),if_neg (by omega)]
  rw [if_neg (fun h=>g ⟨h.1.2,h.2⟩),if_neg (by omega),if_neg (fun h=>g ⟨h.2.2.1,h.2.2.2.1⟩),if_neg (by omega)]
 rw [if_neg (by omega),if_neg (c:=224≤a∧_) (by omega)]
 by_cases c6:a<248
 ·by_cases g:G1∧G2∧G3
  ·have:=q1 g.1;have:=q2 g.2.1;have:=q3 g.2.2
   have e:a % 8 * 262144+b % 64 * 4096+c % 64 * 64+d % 64=64 * (64 * (64 * (a - 240)+(b - 128))+(c - 128))+(d - 128):=by omega
   rw [if_pos ⟨⟨⟨by omega,g.1⟩,g.2.1⟩,g.2.2⟩,e]
   by_cases c4:65536≤64 * (64 * (64 * (a - 240)+(b - 128))+(c - 128))+(d - 128)∧Q6y (64 * (64 * (64 * (a - 240)+(b - 128))+(c - 128))+(d - 128))
   ·rw [if_pos c4,if_pos ⟨by omega,c6,g.1,g.2.1,g.2.2,c4⟩]
   rw [if_neg c4,if_neg (fun h=>c4 h.2.2.2.2.2)]
  rw [if_neg (fun h=>g ⟨h.1.1.2,h.1.2,h.2⟩),if_neg (fun h=>g ⟨h.2.2.1,h.2.2.2.1,h.2.2.2.2.1⟩)]
 rw [if_neg (by omega),if_neg (by omega)]
theorem Qqy (s:List UInt8) (j:Nat):(decide (j<s.length)&&(at8 s j / 64 == 2))=decide (goes s j):=by
 have hk:=Q4r s j
 by_cases hg:goes s j
 ·have h4:at8 s j / 64=2:=by have:=hg.2;omega
  simp [hg,hg.1,h4]
 simp only [hg,decide_false,Bool.and_eq_false_iff,decide_eq_false_iff_not]
 by_cases hl:j<s.length
 ·right;simp only [beq_eq_false_iff_ne,ne_eq]
  intro h4;exact hg ⟨hl,by omega,by omega⟩
 exact .inl hl
theorem Qh4 (s:List UInt8) (i:Nat):Q7p s i=Q3c s i:=by
 have u:∀ j,(s.getD j 0).toNat=at8 s j:=fun _=>rfl;have:=Qmr (at8 s i) (at8 s (i+1)) (at8 s (i+2)) (at8 s (i+3)) (goes s (i+1)) (goes s (i+2)) (goes s (i+3)) (Q4r _ _) (fun h=>h.2) (fun h=>h.2) (fun h=>h.2);unfold Q3c;rw [← this];unfold Q7p;simp only [Nm,u,Qqy];rfl
theorem Qgr (s:List UInt8) (i:Nat) (h:i<s.length):1≤(Q3c s i).2∧i+(Q3c s i).2≤s.length∧((Q3c s i).1<128↔at8 s i<128)∧(at8 s i<128→(Q3c s i).1=at8 s i∧(Q3c s i).2=1) ∧
  (∀ k,1≤k→k<(Q3c s i).2→128≤at8 s (i+k))∧Q6y (Q3c s i).1:=by
 have h0:=Q4r s i;unfold Q3c;split
 ·refine ⟨by simp,by simp;omega,by simp,fun _=>⟨rfl,rfl⟩,fun k h1 h2=>by simp at h2;omega,by unfold Q6y;simp;omega⟩
 split
 ·rename_i h1 h2;obtain ⟨_,_,g1,h3⟩:=h2;refine ⟨by simp,by simp;have:=g1.1;omega,by simp;omega,fun h=>by omega,fun k h4 h5=>?_,by unfold Q6y;simp only;have:=g1.2;omega⟩
  have:k=1:=by simp at h5;omega
  subst this;exact g1.2.1
 split
 ·rename_i h1 h2 h3;obtain ⟨_,_,g1,g2,h3,h6⟩:=h3;refine ⟨by simp,by simp;have:=g2.1;omega,by simp;omega,fun h=>by omega,fun k h4 h5=>?_,h6⟩
  have:k=1∨k=2:=by simp at h5;omega
  rcases this with rfl | rfl
  ·exact g1.2.1
  exact g2.2.1
 split
 ·rename_i h1 h2 h3 h4;obtain ⟨_,_,g1,g2,g3,h3,h6⟩:=h4;refine ⟨by simp,by simp;have:=g3.1;omega,by simp;omega,fun h=>by omega,fun k h4 h5=>?_,h6⟩
  have:k=1∨k=2∨k=3:=by simp at h5;omega
  rcases this with rfl | rfl | rfl
  ·exact g1.2.1
  ·exact g2.2.1
  exact g3.2.1
 rename_i h1 h2 h3 h4;exact ⟨by simp,by simp;omega,by simp;omega,fun h=>by omega,fun k h4 h5=>by simp at h5;omega,by unfold Q6y;simp⟩
def Qix (s:List UInt8) (i:Nat):Prop:=Q3c s i=(65533,1)
instance (s:List UInt8) (i:Nat):Decidable (Qix s i):=inferInstanceAs (Decidable (_=_))
def Qez (s:List UInt8) (pos:Nat):Option Nat:=
 if h:pos<s.length then (if (Q3c s pos).1=0∨Qix s pos then some pos else Qez s (pos+(Q3c s pos).2)) else none
termination_by s.length - pos
decreasing_by have:=(Qgr s pos h).1;omega
end
end Go.Av
namespace Go.Av
noncomputable section
open Go.Proofs
theorem Qoq {b:UInt8} {n:Nat} (h:b.toNat=n) (hn:n<256):b=UInt8.ofNat n:=by
 apply UInt8.toNat_inj.1;rw [h];simp [UInt8.toNat_ofNat];omega
theorem Qjc {s:List UInt8} {i:Nat} (hi:i<s.length) (hc:(Q3c s i).1=65533):(3≤(s.drop i).length∧(s.drop i).take 3 = [239,191,189])↔¬ Qix s i:=by
 constructor
 ·rintro ⟨h1,h2⟩ hn
  have hl:i+2<s.length:=by simp at h1;omega
  have g:∀ k,k<3→s[i+k]? = ([239,191,189]:List UInt8)[k]? := by
   intro k hk;rw [← h2,Lw,if_pos hk,Lz]
  have a0:at8 s i=239:=by have:=g 0 (by omega);simp at this;simp [at8,List.getD_eq_getElem?_getD,this]
  have a1:at8 s (i+1)=191:=by have:=g 1 (by omega);simp at this;simp [at8,List.getD_eq_getElem?_getD,this]
  have a2:at8 s (i+2)=189:=by have:=g 2 (by omega);simp at this;simp [at8,List.getD_eq_getElem?_getD,this]
  have g1:goes s (i+1):=⟨by omega,by omega,by omega⟩;have g2:goes s (i+2):=⟨by omega,by omega,by omega⟩;unfold Qix Q3c at hn;rw [a0,a1,a2] at hn;simp [g1,g2,Q6y] at hn
 intro hn;have h0:=Q4r s i;unfold Qix at hn;unfold Q3c at hn hc;split at hn
 ·rename_i h1;rw [if_pos h1] at hc;simp at hc;omega
 rename_i h1;rw [if_neg h1] at hc;split at hn
 ·rename_i h2;rw [if_pos h2] at hc;obtain ⟨_,_,g1,_⟩:=h2;have:=g1.2;simp at hc;omega
 rename_i h2;rw [if_neg h2] at hc;split at hn
 ·rename_i h3;rw [if_pos h3] at hc;obtain ⟨_,_,g1,g2,_⟩:=h3;have b1:=g1.2;have b2:=g2.2;have l2:=g2.1
  simp only at hc
  have a0:at8 s i=239:=by omega
  have a1:at8 s (i+1)=191:=by omega
  have a2:at8 s (i+2)=189:=by omega
  rw [Q5e (by omega)] at a0 a1 a2;refine ⟨by simp;omega,?_⟩;apply Mr;intro k;rw [Lw]
  by_cases hk:k<3
  ·rw [if_pos hk,Lz]
   have:k=0∨k=1∨k=2:=by omega
   rcases this with rfl | rfl | rfl
   ·rw [Nm,Ld (by omega),Qoq a0 (by omega)];rfl
   ·rw [Ld (by omega),Qoq a1 (by omega)];rfl
   rw [Ld (by omega),Qoq a2 (by omega)];rfl
  rw [if_neg hk];simp;omega
 rename_i h3;rw [if_neg h3] at hc;split at hn
 ·rename_i h4;rw [if_pos h4] at hc;obtain ⟨_,_,g1,g2,g3,h5,h6⟩:=h4
  simp only at hc
  omega
 exact absurd rfl hn
theorem Qmc (N:Nat) (s:List UInt8):Ua N s=some (decide (3≤s.length∧s.take 3 = [239,191,189])):=by
 unfold Ua;rw [U4]
 by_cases h:3≤s.length
 ·have h1:decide ((s.length:Int)≥3)=true:=by simp;omega
  have h2:(Nat.ble 0 3&&Nat.ble 3 s.length)=true:=by simp [h]
  rw [h1,h2];simp only [cond_true,Nh,G0]
  congr 1
  by_cases h3:s.take 3 = [239,191,189]<;>simp [h,h3]
 have h1:decide ((s.length:Int)≥3)=false:=by simp;omega
 rw [h1];simp [h]
def Qpi (o:Option Nat):Int:=match o with
 | some p=>p
 | none => -1
theorem Qp3 (s:List UInt8):Tot (fun N=>Q0f N s) (Qpi (Qez s 0)):=by
 refine TotP.tot ?_;show TotP (fun N=>Yy N s N 0) _;refine Qce (L:=fun N n (p:Nat)=>Yy N s n p) (fun p=>Qez s p=Qez s 0) (fun p=>s.length - p) (fun p hp=>?_) 0 rfl;show Stp _ _ _ (fun N n=>cond (Nat.blt p s.length) _ _);refine Stp.cond (fun h=>?_) (fun h=>?_)
 ·have hl:p<s.length:=by simpa [Nat.blt_eq] using h
  rw [Qh4];have hw:=Qgr s p hl
  have hb:Qez s p=(if (Q3c s p).1=0∨Qix s p then some p else Qez s (p+(Q3c s p).2)):=by rw [Qez,dif_pos hl]
  rw [Xs,Xs];refine Stp.cond (fun h0=>?_) (fun h0=>?_)
  ·have h0:(Q3c s p).1=0:=by simpa using h0
   refine Stp.ret ?_;rw [← hp,hb,if_pos (.inl h0)];rfl
  have h0:(Q3c s p).1≠0:=by simpa using h0
  refine Stp.cond (fun h1=>?_) (fun h1=>?_)
  ·have h1:(Q3c s p).1=65533:=by have:=of_decide_eq_true h1;omega
   refine Stp.chk (by simp;omega) ?_;rw [List.take_length];refine Stp.bind (V:=(· = decide (3≤(s.drop p).length∧(s.drop p).take 3 = [239,191,189]))) ⟨_,rfl,.of fun N=>Qmc N _⟩ ?_
   rintro v rfl
   have hwi:=Qjc hl h1;refine Stp.cond (fun h2=>?_) (fun h2=>?_)
   ·have h2:¬ (3≤(s.drop p).length∧(s.drop p).take 3 = [239,191,189]):=by
     have:(!decide (3≤(s.drop p).length∧(s.drop p).take 3 = [239,191,189]))=true:=h2;simpa only [Nr,decide_eq_false_iff_not] using this
    have h3:Qix s p:=Mb fun h=>h2 (hwi.2 h);refine Stp.ret ?_;rw [← hp,hb,if_pos (.inr h3)];rfl
   have h2:(3≤(s.drop p).length∧(s.drop p).take 3 = [239,191,189]):=by
    have:(!decide (3≤(s.drop p).length∧(s.drop p).take 3 = [239,191,189]))=false:=h2;simpa only [Bool.not_eq_false',decide_eq_true_eq] using this
   refine Stp.go (p+(Q3c s p).2) ⟨?_,by have:=hw.1;have:=hw.2.1;omega⟩;rw [← hp,hb,if_neg]
   rintro (h | h)
   ·exact h0 h
   exact hwi.1 h2 h
  have h1:(Q3c s p).1≠65533:=by intro e;rw [e] at h1;simp at h1
  refine Stp.go (p+(Q3c s p).2) ⟨?_,by have:=hw.1;have:=hw.2.1;omega⟩;rw [← hp,hb,if_neg]
  rintro (h | h)
  ·exact h0 h
  unfold Qix at h;rw [h] at h1;exact h1 rfl
 have hl:¬ p<s.length:=fun hlt=>by
  have h':Nat.blt p s.length=true:=by rw [Bq];exact hlt
  rw [h'] at h;cases h
 refine Stp.ret ?_;rw [← hp,Qez,dif_neg hl];rfl
def Q3q (s:List UInt8):Bool:=decide (s.length≤65535)&&(Qez s 0).isNone
theorem Qlr (o:Option Nat):decide (Qpi o = -1)=o.isNone:=by
 cases o with
 | none=>rfl
 | some p=>simp [Qpi]
theorem Qd7 (s:List UInt8):Tot (fun N=>U1 N s) (Q3q s):=by
 refine TotP.tot ?_;show TotP (fun N=>cond (Q4 .leq (s.length:Int) 65535) _ _) _;rw [Q01];refine TotP.cond (fun h=>?_) (fun h=>?_)
 ·have h:s.length≤65535:=by have:=of_decide_eq_true h;omega
  refine TotP.bindE (Qp3 s) (.ret ?_);rw [Xs,Qlr];simp [Q3q,h]
 have h:¬ s.length≤65535:=by have:=of_decide_eq_false h;omega
 exact .ret (by simp [Q3q,h])
end
end Go.Av
namespace Go.Av
noncomputable section
open Go.Proofs
theorem Qll (s:List UInt8):Tot (fun N=>Q1k N s) (decide (s ≠ [])&&Q3q s):=by
 refine TotP.tot ?_;show TotP (fun N=>cond (G0 .neq s []) _ _) _
 have e:G0 .neq s []=decide (s ≠ []):=by cases s<;>rfl
 rw [e];refine TotP.cond (fun h=>?_) (fun h=>?_)
 ·exact .bindE (Qd7 s) (.ret (by rw [h];rfl))
 exact .ret (by rw [h];rfl)
theorem Qkr (c:UInt8):∀ (l:List UInt8) (i:Nat),(0≤Qf3 l c i)↔c∈l
 | [],i=>by simp [Qf3]
 | b::l,i=>by
  unfold Qf3
  by_cases h:b == c
  ·rw [if_pos h];have:=eq_of_beq h;subst this;simp
  rw [if_neg h,Qkr c l (i+1)];have:¬ c=b:=fun e=>h (by simp [e]);simp [this]
theorem Qmh {c:Nat} (h:Q6y c) (h1:128≤c):∃ l:List UInt8,(Utf8.encode (c:Int)).data.toList=l∧2≤l.length∧l.length≤4∧∀ b∈l,128≤b.toNat:=by
 have hv:=(Qel c).2 h;unfold Utf8.encode;simp only [hv,if_true,Mz];have h2:=h.2
 have m:∀ n,n<256→128≤n→128≤(UInt8.ofNat n).toNat:=fun n a b=>by rw [Nl];omega
 rw [if_neg (by omega)];split
 ·refine ⟨_,rfl,by simp,by simp,fun b hb=>?_⟩;simp only [Mi,Bt,or_false] at hb
  rcases hb with rfl | rfl<;>exact m _ (by omega) (by omega)
 split
 ·refine ⟨_,rfl,by simp,by simp,fun b hb=>?_⟩;simp only [Mi,Bt,or_false] at hb
  rcases hb with rfl | rfl | rfl<;>exact m _ (by omega) (by omega)
 refine ⟨_,rfl,by simp,by simp,fun b hb=>?_⟩;simp only [Mi,Bt,or_false] at hb
 rcases hb with rfl | rfl | rfl | rfl<;>exact m _ (by omega) (by omega)
theorem Qlt (M:Nat):Za (M+3) [43,35] (M+3) 0=some (-1):=by
 have e1:Q7p [43,35] 0=(43,1):=by decide
 have e2:Q7p [43,35] (0+1)=(35,1):=by decide
 have b0:Nat.blt 0 ([43,35]:List UInt8).length=true:=rfl;have b1:Nat.blt (0+1) ([43,35]:List UInt8).length=true:=rfl;have b2:Nat.blt (0+1+1) ([43,35]:List UInt8).length=false:=rfl
 have c1:Q4 .eql ((43:Nat):Int) 65533=false:=by decide
 have c2:Q4 .eql ((35:Nat):Int) 65533=false:=by decide
 rw [Za,e1,b0,cond_true,c1,cond_false,Za,e2,b1,cond_true,c2,cond_false,Za,b2,cond_false]
theorem Qo7 {c:Nat} (hc:Q6y c) (N:Nat):Yl N (c:Int)=some true:=by
 unfold Yl;simp only [Q01,Qz];obtain ⟨k1,k2⟩:=hc;rw [decide_eq_true (show (0:Int)≤(c:Int) by omega)]
 by_cases h5:(c:Int)<55296
 ·rw [decide_eq_true h5];rfl
 have h6:(57343:Int)<(c:Int):=by omega
 have h7:(c:Int)≤1114111:=by omega
 rw [decide_eq_false h5,decide_eq_true h6,decide_eq_true h7];rfl
theorem Qmg {c:Nat} (hc:Q6y c) (h:128≤c) (M:Nat):Yi (M+1) [43,35] (c:Int) (M+1)=some (-1):=by
 obtain ⟨l,hl,l1,l2,l3⟩:=Qmh hc h;rw [Yi];simp only [hl,Qz,Wd]
 have ew:wrap .i64 ((l.length:Int) - 1)=((l.length - 1:Nat):Int):=by rw [w64 _ (by omega)];omega
 rw [ew]
 by_cases h2:l.length=2
 ·have e1:((l.length - 1:Nat):Int)=((1:Nat):Int):=by rw [h2]
  rw [e1];have e2:idx l ((1:Nat):Int)=some l[1]:=Yq (by omega);have e3:=l3 l[1] (Nd _);generalize l[1]=y at e2 e3
  have e4:decide (((35:UInt8).toNat:Int)≠(y.toNat:Int))=true:=by
   have:(35:UInt8).toNat=35:=rfl;simp only [ne_eq,decide_eq_true_eq];omega
  have e5:idx ([43,35]:List UInt8) ((1:Nat):Int)=some 35:=rfl
  have e6:wrap .i64 (((1:Nat):Int)+1)=2:=by decide
  have e7:decide (((1:Nat):Int)<((([43,35]:List UInt8).length:Nat):Int))=true:=by decide
  have e8:decide ((0:Int)≤2)=true:=by decide
  rw [e7,cond_true,e5,Lg,e2,Lg,e4,cond_true,e6,e8,cond_true]
  have e9:(Nat.ble (Int.toNat 2) ([43,35]:List UInt8).length&&Nat.ble ([43,35]:List UInt8).length ([43,35]:List UInt8).length)=true:=by decide
  rw [e9,cond_true,Lg];rfl
 have e1:decide (((l.length - 1:Nat):Int)<((([43,35]:List UInt8).length:Nat):Int))=false:=by
  simp;omega
 rw [e1];rfl
theorem Qcd {c:Nat} (hc:Q6y c):TotP (fun N=>Vk N [43,35] (c:Int)) (fun v=>decide (v≥0)=decide (c=43∨c=35)):=by
 show TotP (fun N=>cond (Q4 .leq 0 (c:Int)) _ _) _
 have e0:Q4 .leq 0 (c:Int)=true:=by rw [Q01];simp
 rw [e0];refine TotP.cond (fun _=>?_) (fun h=>by cases h);unfold X1;rw [Qz,Xs];refine TotP.cond (fun h=>?_) (fun h=>?_)
 ·have h:c<128:=by have:=of_decide_eq_true h;omega
  have ew:wrap .u8 (c:Int)=c:=by
   rw [IntWalk.u8_in];omega
  refine TotP.bindE (v:=Qf3 [43,35] (UInt8.ofNat c) 0) (.of fun N=>?_) (.ret ?_)
  ·show ((Y5 N [43,35] _).bind fun v=>some v)=_;rw [ew];rfl
  have:=Qkr (UInt8.ofNat c) [43,35] 0;rw [decide_eq_decide];show (0≤_)↔_;rw [this]
  have e1:∀ n,n<256→(UInt8.ofNat c=UInt8.ofNat n↔c=n):=fun n hn=>by
   rw [← UInt8.toNat_inj,Nl,Nl];omega
  have a:=e1 43 (by omega);have b:=e1 35 (by omega);simp only [Mi,Bt,or_false];exact or_congr a b
 have h:128≤c:=by have:=of_decide_eq_false h;omega
 have hn:decide (c=43∨c=35)=false:=by simp;omega
 refine TotP.cond (fun h1=>?_) (fun h1=>?_)
 ·-- bytes that are none
  refine ⟨-1,by rw [hn];rfl,3,fun N hN=>?_⟩;obtain ⟨M,rfl⟩:∃ M,N=M+3:=⟨N - 3,by omega⟩;exact Qlt M
 refine TotP.bindE (.of (Qo7 hc)) ?_;refine TotP.cond (fun h=>by cases h) (fun _=>?_);refine ⟨-1,by rw [hn];rfl,1,fun N hN=>?_⟩;obtain ⟨M,rfl⟩:∃ M,N=M+1:=⟨N - 1,by omega⟩;exact Qmg hc h M
end
end Go.Av
namespace Go.Av
noncomputable section
open Go.Proofs
def Qlu (s:List UInt8):Bool:=s.any fun b=>b.toNat == 43||b.toNat == 35
theorem Qnl {s:List UInt8} {j:Nat} (hj:j<s.length) (h:at8 s j=43∨at8 s j=35):Qlu s=true:=by
 unfold Qlu;rw [Bs];refine ⟨s[j],Nd _,?_⟩;rw [Q5e hj] at h
 rcases h with h | h<;>simp [h]
theorem Qn7 {s:List UInt8} (h:∀ j,j<s.length→at8 s j≠43∧at8 s j≠35):Qlu s=false:=by
 unfold Qlu;rw [Ck];intro b hb;obtain ⟨j,hj,rfl⟩:=Bm hb;have:=h j hj;rw [Q5e hj] at this;simp [this.1,this.2]
def asciiS:List Bool:=(List.range 256).map fun n=>n == 43||n == 35
theorem Qjx (n:Nat) (h:n<256):idx asciiS (n:Int)=some (n == 43||n == 35):=by
 have hl:n<asciiS.length:=by simp [asciiS];exact h
 rw [Yq hl];simp [asciiS]
set_option maxRecDepth 20000 in
theorem Qej (s:List UInt8) (hs:s.length≤maxLen):TotP (fun N=>Wx N s) (fun v=>decide (v≥0)=Qlu s):=by
 have hm:=Q3l;show TotP (fun N=>cond (G0 .eql [43,35] []) _ _) _;refine TotP.cond (fun h=>by cases h) (fun _=>?_);refine TotP.bindE (v:=decide ((s.length:Int)>8)) (.of fun N=>rfl) ?_;refine TotP.cond (fun _=>?_) (fun _=>?_)
 ·refine Qb2 (L:=fun N n i=>Y4 N s n i) s.length (fun i=>∀ j,j<i→at8 s j≠43∧at8 s j≠35) (fun i hi hj=>?_) (fun hj=>?_) (fun j hj=>by omega)
  ·show Stp _ _ _ (fun N n=>cond (Q4 .lss (i:Int) (s.length:Int)) _ _);refine Stp.cond (fun _=>?_) (fun h=>by rw [Qz] at h;have:=of_decide_eq_false h;omega);refine Stp.idx (Yq hi) ?_;have hb:=Ct s[i];refine Stp.chk (by simp;omega) ?_;refine Stp.idx (Qjx _ (by omega)) ?_;refine Stp.cond (fun h=>?_) (fun h=>?_)
   ·refine Stp.ret ?_;rw [Qnl hi (by rw [Q5e hi];simpa using h)];simp
   rw [w64 _ (by omega)];refine Stp.go _ ⟨by omega,fun j hj'=>?_⟩
   by_cases e:j=i
   ·subst e;rw [Q5e hi];simpa using h
   exact hj j (by omega)
  show Stp _ _ _ (fun N n=>cond (Q4 .lss (s.length:Int) (s.length:Int)) _ _);refine Stp.cond (fun h=>by rw [Qz] at h;have:=of_decide_eq_true h;omega) (fun _=>?_);refine Stp.ret ?_;rw [Qn7 hj];rfl
 refine Qce (L:=fun N n (p:Nat)=>Y2 N s n p) (fun p=>∀ j,j<p→at8 s j≠43∧at8 s j≠35) (fun p=>s.length - p) (fun p hp=>?_) 0 (fun j hj=>by omega);show Stp _ _ _ (fun N n=>cond (Nat.blt p s.length) _ _);refine Stp.cond (fun h=>?_) (fun h=>?_)
 ·have hl:p<s.length:=by simpa [Nat.blt_eq] using h
  rw [Qh4];obtain ⟨w1,w2,w3,w4,w5,w6⟩:=Qgr s p hl;refine Stp.bind (Qcd w6) ?_;intro v hv;rw [U4,hv];refine Stp.cond (fun h=>?_) (fun h=>?_)
  ·have h:=of_decide_eq_true h;have h128:at8 s p<128:=w3.1 (by omega);refine Stp.ret ?_;rw [Qnl hl (by rw [← (w4 h128).1];exact h)];simp
  have h:=of_decide_eq_false h;refine Stp.go _ ⟨fun j hj=>?_,by omega⟩
  by_cases e:j<p
  ·exact hp j e
  by_cases e2:j=p
  ·subst e2
   by_cases h128:at8 s j<128
   ·rw [(w4 h128).1] at h;omega
   omega
  have:=w5 (j - p) (by omega) (by omega);rw [show p+(j - p)=j by omega] at this;omega
 refine Stp.ret ?_;rw [Qn7 (fun j hj=>hp j ?_)]
 ·rfl
 have:¬ p<s.length:=fun hlt=>by
  have h':Nat.blt p s.length=true:=by rw [Bq];exact hlt
  rw [h'] at h;cases h
 omega
theorem Qe9 (s:List UInt8) (hs:s.length≤maxLen):Tot (fun N=>Xk N s) (Qlu s):=by
 refine TotP.tot ?_;refine TotP.bind (Qej s hs) (fun v hv => .ret ?_);rw [U4];exact hv
def Qed (s:List UInt8):Bool:=decide (s ≠ [])&&Q3q s && !Qlu s
theorem Qhj (s:List UInt8) (hs:s.length≤maxLen):Tot (fun N=>Gt N s) (Qed s):=by
 refine TotP.tot ?_;refine TotP.bindE (Qll s) ?_;refine TotP.cond (fun h=>?_) (fun h=>?_)
 ·refine TotP.bindE (Qe9 s hs) (.ret ?_);unfold Qed;rw [h];rfl
 exact .ret (by unfold Qed;rw [h];rfl)
end
end Go.Av
namespace Go.Av
noncomputable section
def Any {R:Type} (f:Nat→Option R):Prop:=TotP f fun _=>True
section
variable (e:Zo) (lm:Vv) (h1:e.Hops.length≤8) (h2:∀ h∈e.Hops,h.Node.length≤300)
include h1 h2
end
end
end Go.Av
namespace Go.Av
noncomputable section
section
variable {R S T:Type} {L:Nat→Nat→S→Option R} {P:S→Prop} {Q:R→Prop}
end
end
end Go.Av
namespace Go.Av
noncomputable section
theorem Qe7 (l:List Qj) (hb:l.length≤maxLen):TotP (fun N=>Z1 N l) (fun v=>v=true→l.length≤30∧∀ p∈l,p.Text.length≤300∧p.Value.length≤300):=by
 have hm:=Q3l
 ·refine Qb2 (L:=fun N n s=>Z8 N l n s) l.length (fun i=>∀ j (h:j<l.length),j<i→(l[j]).Text.length≤300∧(l[j]).Value.length≤300) (fun i hi hj=>?_) (fun hj=>?_) (fun j _ hj=>by omega)
  ·show Stp _ _ _ (fun N n=>cond (Q4 .lss (i:Int) ((Qc Qj.cells l).length:Int)) _ _);rw [Qa,Qz];refine Stp.cond (fun _=>?_) (fun h=>by have:=of_decide_eq_false h;omega);refine Stp.idx (Yq hi) ?_;rw [W6];refine Stp.cond (fun _=>Stp.ret (fun h=>nomatch h)) (fun h1=>?_);refine Stp.idx (Yq hi) ?_;rw [W6];refine Stp.cond (fun _=>Stp.ret (fun h=>nomatch h)) (fun h2=>?_);have h1:=of_decide_eq_false h1;have h2:=of_decide_eq_false h2;rw [w64 _ (by omega)];refine Stp.go (L:=fun N n s=>Z8 N l n s) _ ⟨by omega,fun j hj' hji=>?_⟩
   by_cases e:j=i
   ·subst e;constructor<;>omega
   exact hj j hj' (by omega)
  show Stp _ _ _ (fun N n=>cond (Q4 .lss (l.length:Int) ((Qc Qj.cells l).length:Int)) _ _);rw [Qa,Qz];refine Stp.cond (fun h=>by have:=of_decide_eq_true h;omega) (fun _=>Stp.ret (fun h=>⟨?_,fun p hp=>?_⟩))
  ·rw [Q01] at h;have:=of_decide_eq_true h;omega
  obtain ⟨j,hj',rfl⟩:=Bm hp;exact hj j hj' hj'
structure OkE (e:Zo):Prop where
 topic:e.Topic.length≤maxLen
 props:e.Props.length≤maxLen
 filters:e.Packet.Filters.length≤maxLen
 pprops:e.Packet.Props.length≤maxLen
 wprops:e.Packet.Will.Props.length≤maxLen
structure LightE (e:Zo):Prop where
 topic:e.Topic.length≤2000
 payload:e.Payload.length≤2000
 props:e.Props.length≤30∧∀ p∈e.Props,p.Text.length≤300∧p.Value.length≤300
 hops:e.Hops.length≤8∧∀ h∈e.Hops,h.Node.length≤300
def Lv (o:Option Int) (P:Prop):Prop:=∃ v,o=some v∧(v=0→P)
theorem Lv.of {v:Int} {P:Prop} (h:P):Lv (some v) P:=⟨v,rfl,fun _=>h⟩
theorem Lv.no {v:Int} {P:Prop} (h:v≠0):Lv (some v) P:=⟨v,rfl,fun e=>absurd e h⟩
theorem Lv.cond {b:Bool} {x y:Option Int} {P:Prop} (h1:Lv x P) (h2:Lv y P):Lv (cond b x y) P:=by cases b<;>assumption
structure PubE (e:Zo):Prop where
 proto:e.Proto=1∨e.Proto=2∨e.Proto=3∨e.Proto=4
 kind:e.Kind=1
 qos:e.QoS = -1∨e.QoS=0∨e.QoS=1∨e.QoS=2
end
end Go.Av
namespace Go.Av
noncomputable section
open Go.Proofs
set_option maxRecDepth 100000
end
end Go.Av
namespace Go.Av
noncomputable section
open Go.Proofs
set_option maxRecDepth 100000
end
end Go.Av
namespace Go.Av
noncomputable section
open Go.Proofs
set_option maxRecDepth 100000
end
end Go.Av
namespace Go.Av
noncomputable section
open Go.Proofs
set_option maxRecDepth 100000
end
end Go.Av
namespace Go.Av
noncomputable section
open Go.Proofs
set_option maxRecDepth 100000
end
end Go.Av
namespace Go.Av
noncomputable section
open Go.Proofs
set_option maxRecDepth 100000
end
end Go.Av
namespace Go.Av
noncomputable section
open Go.Proofs
set_option maxRecDepth 100000
structure FB (f:Wb):Prop where
 fine:∀ x∈f.Values,Fine x
 sz:Q3.szs f.Values<160000000
 wgt:Q3.wgts f.Values<4000000000
theorem FB.len {f:Wb} (h:FB f):f.Values.length<160000000:=by
 have h1:=Q3.szs_len f.Values;have h2:=h.sz;omega
end
end Go.Av
namespace Go.Av
noncomputable section
open Go.Proofs
set_option maxRecDepth 100000
theorem Wb.ext' {a b:Wb} (h1:a.Type'=b.Type') (h2:a.Channel=b.Channel) (h3:a.Ext=b.Ext) (h4:a.Values=b.Values):a=b:=by cases a;cases b;simp_all
noncomputable instance:DecidableEq Wb:=fun a b=>decidable_of_iff (a.Type'=b.Type'∧a.Channel=b.Channel∧a.Ext=b.Ext∧a.Values=b.Values) ⟨fun h=>Wb.ext' h.1 h.2.1 h.2.2.1 h.2.2.2,fun h=>by rw [h];exact ⟨rfl,rfl,rfl,rfl⟩⟩
theorem Qml (l m:List Q3) (i:Nat) (h:i<l.length) (h':i<m.length):decide (l.drop i=m.drop i)=(decide (l[i]=m[i])&&decide (l.drop (i+1)=m.drop (i+1))):=by
 rw [Nv h,Nv h',Bool.eq_iff_iff];simp only [decide_eq_true_eq,Lb,By]
theorem Q7o {N:Nat} (hN:800000000≤N) {a b:Wb} (ha:Q3.szs a.Values<700000000) (hl:a.Values.length=b.Values.length):∀ (n i:Nat),i≤a.Values.length→a.Values.length - i<n→Z5 N a b n (i:Int)=some (decide (a.Values.drop i=b.Values.drop i))
 | 0,i,_,h=>by omega
 | n+1,i,hi,hn=>by
  have hs:=Q3.szs_len a.Values;simp only [Z5,Q5j,Qmb,Q6g,Qa0]
  by_cases h:i<a.Values.length
  ·have h':i<b.Values.length:=by omega
   have hx:=Q3.szs_mem _ _ (Nd h);rw [if_pos (by omega),Ld h,Ld h'];simp only [Lg];rw [Qbn N _ _ (by omega) (by omega),Qml _ _ i h h'];simp only [Lg];rw [Q9q _ (by omega)];have ih:=Q7o hN ha hl n (i+1) (by omega) (by omega)
   have ih:Z5 N a b n ((i:Int)+1)=some (decide (a.Values.drop (i+1)=b.Values.drop (i+1))):=by exact_mod_cast ih
   rw [ih];cases decide (a.Values[i]=b.Values[i])<;>rfl
  rw [if_neg (by omega),Mk (by omega),Mk (by omega)];rfl
theorem Qe3 {N:Nat} (hN:800000000≤N) (a b:Wb) (ha:Q3.szs a.Values<700000000):Xz N a b=some (decide (a=b)):=by
 have hs:=Q3.szs_len a.Values;simp only [Xz,Q5j,Qpr,Qge,Q6g]
 by_cases h1:a.Type'=b.Type'
 ·rw [if_neg (by simp [h1])]
  by_cases h2:a.Channel=b.Channel
  ·rw [if_neg (by simp [h2])]
   by_cases h3:a.Ext=b.Ext
   ·rw [if_neg (by simp [h3])]
    by_cases h4:a.Values.length=b.Values.length
    ·rw [if_neg (by simp [h4])];have:=Q7o hN ha h4 N 0 (by omega) (by omega);rw [Nh,Nh] at this
     have:Z5 N a b N 0=some (decide (a.Values=b.Values)):=by exact_mod_cast this
     rw [this]
     congr 1
     rw [Bool.eq_iff_iff];simp only [decide_eq_true_eq];exact ⟨fun h=>Wb.ext' h1 h2 h3 h,fun h=>by rw [h]⟩
    rw [if_pos (by omega),decide_eq_false (fun h=>h4 (by rw [h]))]
   rw [if_pos h3,decide_eq_false (fun h=>h3 (by rw [h]))]
  rw [if_pos h2,decide_eq_false (fun h=>h2 (by rw [h]))]
 rw [if_pos h1,decide_eq_false (fun h=>h1 (by rw [h]))]
end
end Go.Av
namespace Go.Av
noncomputable section
theorem Q5v (x y:List UInt8):G0 .eql x y=decide (x=y):=by
 show (x == y)=_
 by_cases h:x=y
 ·rw [h];simp
 rw [decide_eq_false h];exact beq_eq_false_iff_ne.2 h
theorem Qh7 (x y:List UInt8):G0 .neq x y=decide (x≠y):=by
 show (!(x == y))=_
 by_cases h:x=y
 ·rw [h];simp
 rw [decide_eq_true h,beq_eq_false_iff_ne.2 h];rfl
section
variable {T:Type}
theorem Qab {L:Nat→Nat→Int→Option Bool} {a b:List T} {eq:T→T→Bool} (heq:∀ x y,eq x y=true↔x=y) (hab:a.length=b.length) (hm:a.length≤maxLen)
  (Qr:∀ N n (i:Nat) (h:i<a.length) (h':i<b.length),L N (n+1) (i:Int)=cond (!(eq a[i] b[i])) (some false) (L N n (wrap .i64 ((i:Int)+1)))) (fin:∀ N n,L N (n+1) (a.length:Int)=some true) :
  TotP (fun N=>L N N 0) (fun v=>v=true↔a=b):=by
 have hml:=Q3l;refine Qb2 (L:=L) a.length (fun i=>∀ j (h:j<a.length) (h':j<b.length),j<i→a[j]=b[j]) (fun i hi hj=>?_) (fun hj=>?_) (fun j _ _ hj=>by omega)
 ·have e:(fun N n=>L N (n+1) (i:Int))=fun N n=>cond (!(eq (a[i]'hi) (b[i]'(by omega)))) (some false) (L N n (wrap .i64 ((i:Int)+1))):=by
   funext N n;exact Qr N n i hi (by omega)
  rw [e,w64 _ (by omega)];refine Stp.cond (fun h=>Stp.ret ?_) (fun h=>Stp.go (L:=L) _ ⟨by omega,fun j hj1 hj2 hji=>?_⟩)
  ·have h:¬ eq (a[i]'hi) (b[i]'(by omega))=true:=by simpa using h
   refine ⟨fun h=>(by cases h),fun e=>absurd ((heq _ _).2 ?_) h⟩;subst e;rfl
  have h:eq (a[i]'hi) (b[i]'(by omega))=true:=by simpa using h
  by_cases e:j=i
  ·subst e;exact (heq _ _).1 h
  exact hj j hj1 hj2 (by omega)
 have e:(fun N n=>L N (n+1) (a.length:Int))=fun _ _=>some true:=by funext N n;exact fin N n
 rw [e];exact Stp.ret ⟨fun _=>List.ext_getElem hab (fun j h1 h2=>hj j h1 h2 h1),fun _=>rfl⟩
end
theorem Qro {x y:Qj}:(((x.ID:Int) == y.ID)&&(((x.N':Int) == y.N')&&(((x.Text:List UInt8) == y.Text)&&(((x.Value:List UInt8) == y.Value)&&true))))=true↔x=y:=by
 cases x;cases y;simp
theorem Zbt {x y:Q3e}:(((x.Radius:Int) == y.Radius)&&(((x.Node:List UInt8) == y.Node)&&true))=true↔x=y:=by
 cases x;cases y;simp
theorem Qjl {x y:Qn}:(((x.Topic:List UInt8) == y.Topic)&&(((x.QoS:Int) == y.QoS)&&(((x.NoLocal:Bool) == y.NoLocal)&&(((x.AsPublished:Bool) == y.AsPublished)&&(((x.Handling:Int) == y.Handling)&&true)))))=true↔x=y:=by
 cases x;cases y;simp
theorem Q81 (a b:List Qj) (ha:a.length≤maxLen):TotP (fun N=>Yx N a b) (fun v=>v=true↔a=b):=by
 unfold Yx;rw [Qa,Qa,Wd];refine TotP.cond (fun h => .ret ⟨fun h=>(by cases h),fun e=>?_⟩) (fun h=>?_)
 ·have:=of_decide_eq_true h;subst e;exact absurd rfl this
 have h:=of_decide_eq_false h
 have hab:a.length=b.length:=by omega
 refine Qab (L:=fun N n i=>Y9 N a b n i) (eq:=fun x y=>((x.ID:Int) == y.ID)&&(((x.N':Int) == y.N')&&(((x.Text:List UInt8) == y.Text)&&(((x.Value:List UInt8) == y.Value)&&true)))) (fun _ _=>Qro) hab ha (fun N n i h h'=>?_) (fun N n=>?_)
 ·show cond (Q4 .lss (i:Int) ((Qc Qj.cells a).length:Int)) ((idx a (i:Int)).bind _) _=_;rw [Qa,Qz,decide_eq_true (by omega),Yq h,Yq h'];rfl
 show cond (Q4 .lss (a.length:Int) ((Qc Qj.cells a).length:Int)) _ _=_;rw [Qa,Qz,decide_eq_false (by omega)];rfl
theorem Qal (a b:List Qn) (ha:a.length≤maxLen):TotP (fun N=>X4 N a b) (fun v=>v=true↔a=b):=by
 unfold X4;rw [Qa,Qa,Wd];refine TotP.cond (fun h => .ret ⟨fun h=>(by cases h),fun e=>?_⟩) (fun h=>?_)
 ·have:=of_decide_eq_true h;subst e;exact absurd rfl this
 have h:=of_decide_eq_false h
 have hab:a.length=b.length:=by omega
 refine Qab (L:=fun N n i=>Zw N a b n i) (eq:=fun x y=>((x.Topic:List UInt8) == y.Topic)&&(((x.QoS:Int) == y.QoS)&&(((x.NoLocal:Bool) == y.NoLocal)&&(((x.AsPublished:Bool) == y.AsPublished)&&(((x.Handling:Int) == y.Handling)&&true))))) (fun _ _=>Qjl) hab ha (fun N n i h h'=>?_) (fun N n=>?_)
 ·show cond (Q4 .lss (i:Int) ((Qc Qn.cells a).length:Int)) ((idx a (i:Int)).bind _) _=_;rw [Qa,Qz,decide_eq_true (by omega),Yq h,Yq h'];rfl
 show cond (Q4 .lss (a.length:Int) ((Qc Qn.cells a).length:Int)) _ _=_;rw [Qa,Qz,decide_eq_false (by omega)];rfl
theorem Qg0 (a b:List Int) (ha:a.length≤maxLen):TotP (fun N=>Uf N a b) (fun v=>v=true↔a=b):=by
 unfold Uf;rw [Qa,Qa,Wd];refine TotP.cond (fun h => .ret ⟨fun h=>(by cases h),fun e=>?_⟩) (fun h=>?_)
 ·have:=of_decide_eq_true h;subst e;exact absurd rfl this
 have h:=of_decide_eq_false h
 have hab:a.length=b.length:=by omega
 refine Qab (L:=fun N n i=>Xl N a b n i) (eq:=fun x y=>Q4 .eql x y) (fun x y=>by rw [Xs];exact decide_eq_true_iff) hab ha (fun N n i h h'=>?_) (fun N n=>?_)
 ·show cond (Q4 .lss (i:Int) ((Qc (cI .i64) a).length:Int)) ((idx a (i:Int)).bind _) _=_;rw [Qa,Qz,decide_eq_true (by omega),Yq h,Yq h'];rfl
 show cond (Q4 .lss (a.length:Int) ((Qc (cI .i64) a).length:Int)) _ _=_;rw [Qa,Qz,decide_eq_false (by omega)];rfl
structure Qrx (p:Q5):Prop where
 codes:p.Codes.length≤maxLen
 filters:p.Filters.length≤maxLen
 props:p.Props.length≤maxLen
 wprops:p.Will.Props.length≤maxLen
theorem Qdy (a b:W7) (ha:a.Props.length≤maxLen):TotP (fun N=>Uc N a b) (fun v=>v=true↔a=b):=by
 obtain ⟨t,p,q,r,l⟩:=a;obtain ⟨t',p',q',r',l'⟩:=b;unfold Uc;dsimp only;rw [Q5v,Q5v,Xs];refine TotP.cond (fun h1=>?_) (fun h1 => .ret ⟨fun h=>(by cases h),fun e=>?_⟩)
 ·refine TotP.cond (fun h2=>?_) (fun h2 => .ret ⟨fun h=>(by cases h),fun e=>?_⟩)
  ·refine TotP.cond (fun h3=>?_) (fun h3 => .ret ⟨fun h=>(by cases h),fun e=>?_⟩)
   ·refine TotP.cond (fun h4=>?_) (fun h4 => .ret ⟨fun h=>(by cases h),fun e=>?_⟩)
    ·refine TotP.bind (Q81 l l' ha) (fun v hv => .ret ?_);rw [hv];have h1:=of_decide_eq_true h1;have h2:=of_decide_eq_true h2;have h3:=of_decide_eq_true h3;have h4:=eq_of_beq h4;subst h1 h2 h3 h4;simp
    injection e with _ _ _ e _;subst e;simp at h4
   injection e with _ _ e _ _;exact absurd e (of_decide_eq_false h3)
  injection e with _ e _ _ _;exact absurd e (of_decide_eq_false h2)
 injection e with e _ _ _ _;exact absurd e (of_decide_eq_false h1)
theorem Qea (a b:Q5) (ha:Qrx a):TotP (fun N=>Gk N a b) (fun v=>v=true↔a=b):=by
 unfold Gk;refine TotP.bindE (.of fun N=>rfl) ?_;refine TotP.bindE (.of fun N=>rfl) ?_;refine TotP.cond (fun h1=>?_) (fun h1 => .ret ⟨fun h=>(by cases h),fun e=>?_⟩)
 ·refine TotP.bind (Qdy a.Will b.Will ha.wprops) (fun v2 h2=>?_);refine TotP.cond (fun e2=>?_) (fun e2 => .ret ⟨fun h=>(by cases h),fun e=>?_⟩)
  ·refine TotP.bind (Qg0 a.Codes b.Codes ha.codes) (fun v3 h3=>?_);refine TotP.cond (fun e3=>?_) (fun e3 => .ret ⟨fun h=>(by cases h),fun e=>?_⟩)
   ·refine TotP.bind (Qal a.Filters b.Filters ha.filters) (fun v4 h4=>?_);refine TotP.cond (fun e4=>?_) (fun e4 => .ret ⟨fun h=>(by cases h),fun e=>?_⟩)
    ·refine TotP.bind (Q81 a.Props b.Props ha.props) (fun v5 h5 => .ret ?_);rw [h5];have e2:=h2.1 e2;have e3:=h3.1 e3;have e4:=h4.1 e4;obtain ⟨a1,a2,a3,a4,a5,a6,a7,a8,a9,a10,a11,a12,a13,a14,a15,a16,a17,a18,a19,a20,a21⟩:=a;obtain ⟨b1,b2,b3,b4,b5,b6,b7,b8,b9,b10,b11,b12,b13,b14,b15,b16,b17,b18,b19,b20,b21⟩:=b;dsimp only at e2 e3 e4 ⊢;simp at h1;simp [h1,e2,e3,e4]
    subst e;exact absurd (h4.2 rfl) (by rw [e4];simp)
   subst e;exact absurd (h3.2 rfl) (by rw [e3];simp)
  subst e;exact absurd (h2.2 rfl) (by rw [e2];simp)
 subst e;simp at h1
end
end Go.Av
namespace Go.Av
noncomputable section
theorem TotP.any {R:Type} {f:Nat→Option R} {Q:R→Prop} (h:TotP f Q):Any f:=h.mono fun _ _=>trivial
theorem Qqd {k:Int} (h:0≤k∧k≤18446744073709551615):wrap .u64 k=k:=IntWalk.u64_in k h
structure OkP (l:List Qj):Prop where
 len:l.length≤30
 txt:∀ p∈l,p.Text.length≤maxLen
structure Qlf (p:Q5):Prop where
 l:Qrx p
 props:OkP p.Props
 wprops:OkP p.Will.Props
 topic:p.Topic.length≤2000
 payload:p.Payload.length≤2000
 client:p.Client.length≤2000
 user:p.User.length≤2000
 pass:p.Pass.length≤2000
 wtopic:p.Will.Topic.length≤2000
 wpayload:p.Will.Payload.length≤2000
 codes:p.Codes.length≤30
 filters:p.Filters.length≤30∧∀ f∈p.Filters,f.Topic.length≤2000
theorem ml2:2000≤maxLen:=by unfold maxLen;decide
section
variable {p:Q5} (h:Qlf p)
include h
end
end
end Go.Av
namespace Go.Av
noncomputable section
end
end Go.Av
namespace Go.Av
noncomputable section
section
variable {p:Q5} (h:Qlf p)
include h
end
end
end Go.Av
namespace Go.Av
noncomputable section
open Go.Proofs
theorem Z8f (x:Nat) (h:x≤9223372036854775807):wrap .i64 (x:Int)=x:=w64 _ (by omega)
theorem Qfk (N:Nat) (s:List UInt8) (j:Nat):Z3 N s (j:Int)=some (if goes s j then (((at8 s j - 128:Nat):Int),true) else (0,false)):=by
 unfold Z3;rw [U4]
 by_cases hj:j<s.length
 ·have hb:=Ct s[j];rw [decide_eq_false (show ¬ ((j:Int)≥(s.length:Int)) by omega),cond_false,Yq hj,Lg,Qz,Lg,W6,Lg];have e:=Q5e hj
  by_cases h1:at8 s j<128
  ·rw [decide_eq_true (by omega),cond_true,if_neg (fun h=>by have:=h.2.1;omega)]
  rw [decide_eq_false (by omega),cond_false]
  by_cases h2:at8 s j<192
  ·rw [decide_eq_false (by omega),cond_false,if_pos ⟨hj,by omega,h2⟩,w64 ((s[j]).toNat:Int) (by omega),w64 _ (by omega)]
   congr 2;omega
  rw [decide_eq_true (by omega),cond_true,if_neg (fun h=>h2 h.2.2)]
 rw [decide_eq_true (show ((j:Int)≥(s.length:Int)) by omega),cond_true,if_neg (fun h=>hj h.1)]
theorem Qt9 (N:Nat) (s:List UInt8) (i n x k:Nat) (hk:k<2) (hx:x<1099511627776) (hi:i≤4611686018427387904):Qu N s (i:Int) (n+1) (x:Int) (k:Int) =
  if goes s (i+k) then Qu N s (i:Int) n ((64 * x+(at8 s (i+k) - 128):Nat):Int) ((k+1:Nat):Int) else some (0,0):=by
 have hb:=Q4r s (i+k);rw [Qu,Qz,decide_eq_true (by omega),cond_true,show wrap .i64 ((i:Int)+(k:Int))=((i+k:Nat):Int) by rw [w64 _ (by omega)];omega,Qfk,Lg]
 by_cases g:goes s (i+k)
 ·rw [if_pos g,if_pos g];show Qu N s (i:Int) n (wrap .i64 (wrap .i64 (64 * (x:Int))+((at8 s (i+k) - 128:Nat):Int))) (wrap .i64 ((k:Int)+1))=_;rw [w64 (64 * (x:Int)) (by omega),w64 _ (by omega),w64 _ (by omega)]
  congr 1
 rw [if_neg g,if_neg g];rfl
theorem Qrf (N:Nat) (s:List UInt8) (i n x:Nat):Qu N s (i:Int) (n+1) (x:Int) ((2:Nat):Int)=if 128≤x∧Q6y x then some ((x:Int),2) else some (0,0):=by
 rw [Qu,Qz,decide_eq_false (by omega),cond_false,Qz,W6,U4,Q01];unfold Q6y
 by_cases h1:x<128
 ·rw [decide_eq_true (by omega),cond_true,if_neg (by omega)]
 rw [decide_eq_false (show ¬ ((x:Int)<128) by omega),cond_false]
 by_cases h2:x≤1114111
 ·rw [decide_eq_false (show ¬ ((x:Int)>1114111) by omega),cond_false]
  by_cases h3:55296≤x
  ·rw [decide_eq_true (show ((x:Int)≥55296) by omega),cond_true]
   by_cases h4:x≤57343
   ·rw [decide_eq_true (show ((x:Int)≤57343) by omega),cond_true,if_neg (by omega)]
   rw [decide_eq_false (show ¬ ((x:Int)≤57343) by omega),cond_false,if_pos (by omega)]
  rw [decide_eq_false (show ¬ ((x:Int)≥55296) by omega),cond_false,if_pos (by omega)]
 rw [decide_eq_true (show ((x:Int)>1114111) by omega),cond_true,if_neg (by omega)]
theorem Qrn (N:Nat) (s:List UInt8) (i n x k:Nat) (hk:k<3) (hx:x<1099511627776) (hi:i≤4611686018427387904):Qt N s (i:Int) (n+1) (x:Int) (k:Int) =
  if goes s (i+k) then Qt N s (i:Int) n ((64 * x+(at8 s (i+k) - 128):Nat):Int) ((k+1:Nat):Int) else some (0,0):=by
 have hb:=Q4r s (i+k);rw [Qt,Qz,decide_eq_true (by omega),cond_true,show wrap .i64 ((i:Int)+(k:Int))=((i+k:Nat):Int) by rw [w64 _ (by omega)];omega,Qfk,Lg]
 by_cases g:goes s (i+k)
 ·rw [if_pos g,if_pos g];show Qt N s (i:Int) n (wrap .i64 (wrap .i64 (64 * (x:Int))+((at8 s (i+k) - 128:Nat):Int))) (wrap .i64 ((k:Int)+1))=_;rw [w64 (64 * (x:Int)) (by omega),w64 _ (by omega),w64 _ (by omega)]
  congr 1
 rw [if_neg g,if_neg g];rfl
theorem Qqb (N:Nat) (s:List UInt8) (i n x:Nat):Qt N s (i:Int) (n+1) (x:Int) ((3:Nat):Int)=if 2048≤x∧Q6y x then some ((x:Int),3) else some (0,0):=by
 rw [Qt,Qz,decide_eq_false (by omega),cond_false,Qz,W6,U4,Q01];unfold Q6y
 by_cases h1:x<2048
 ·rw [decide_eq_true (by omega),cond_true,if_neg (by omega)]
 rw [decide_eq_false (show ¬ ((x:Int)<2048) by omega),cond_false]
 by_cases h2:x≤1114111
 ·rw [decide_eq_false (show ¬ ((x:Int)>1114111) by omega),cond_false]
  by_cases h3:55296≤x
  ·rw [decide_eq_true (show ((x:Int)≥55296) by omega),cond_true]
   by_cases h4:x≤57343
   ·rw [decide_eq_true (show ((x:Int)≤57343) by omega),cond_true,if_neg (by omega)]
   rw [decide_eq_false (show ¬ ((x:Int)≤57343) by omega),cond_false,if_pos (by omega)]
  rw [decide_eq_false (show ¬ ((x:Int)≥55296) by omega),cond_false,if_pos (by omega)]
 rw [decide_eq_true (show ((x:Int)>1114111) by omega),cond_true,if_neg (by omega)]
theorem Qp9 (N:Nat) (s:List UInt8) (i n x k:Nat) (hk:k<4) (hx:x<1099511627776) (hi:i≤4611686018427387904):Qs N s (i:Int) (n+1) (x:Int) (k:Int) =
  if goes s (i+k) then Qs N s (i:Int) n ((64 * x+(at8 s (i+k) - 128):Nat):Int) ((k+1:Nat):Int) else some (0,0):=by
 have hb:=Q4r s (i+k);rw [Qs,Qz,decide_eq_true (by omega),cond_true,show wrap .i64 ((i:Int)+(k:Int))=((i+k:Nat):Int) by rw [w64 _ (by omega)];omega,Qfk,Lg]
 by_cases g:goes s (i+k)
 ·rw [if_pos g,if_pos g];show Qs N s (i:Int) n (wrap .i64 (wrap .i64 (64 * (x:Int))+((at8 s (i+k) - 128:Nat):Int))) (wrap .i64 ((k:Int)+1))=_;rw [w64 (64 * (x:Int)) (by omega),w64 _ (by omega),w64 _ (by omega)]
  congr 1
 rw [if_neg g,if_neg g];rfl
theorem Qqs (N:Nat) (s:List UInt8) (i n x:Nat):Qs N s (i:Int) (n+1) (x:Int) ((4:Nat):Int)=if 65536≤x∧Q6y x then some ((x:Int),4) else some (0,0):=by
 rw [Qs,Qz,decide_eq_false (by omega),cond_false,Qz,W6,U4,Q01];unfold Q6y
 by_cases h1:x<65536
 ·rw [decide_eq_true (by omega),cond_true,if_neg (by omega)]
 rw [decide_eq_false (show ¬ ((x:Int)<65536) by omega),cond_false]
 by_cases h2:x≤1114111
 ·rw [decide_eq_false (show ¬ ((x:Int)>1114111) by omega),cond_false]
  by_cases h3:55296≤x
  ·rw [decide_eq_true (show ((x:Int)≥55296) by omega),cond_true]
   by_cases h4:x≤57343
   ·rw [decide_eq_true (show ((x:Int)≤57343) by omega),cond_true,if_neg (by omega)]
   rw [decide_eq_false (show ¬ ((x:Int)≤57343) by omega),cond_false,if_pos (by omega)]
  rw [decide_eq_false (show ¬ ((x:Int)≥55296) by omega),cond_false,if_pos (by omega)]
 rw [decide_eq_true (show ((x:Int)>1114111) by omega),cond_true,if_neg (by omega)]
def ptF (q:Nat×Nat):Int×Int:=if q.1=65533∧q.2=1 then (0,0) else ((q.1:Int),(q.2:Int))
theorem Qeu {c w:Nat} (h:¬ (c=65533∧w=1)):ptF (c,w)=((c:Int),(w:Int)):=if_neg h
theorem Q3b:ptF (65533,1)=(0,0):=if_pos ⟨rfl,rfl⟩
def ptR (s:List UInt8) (i:Nat):Int×Int:=ptF (Q3c s i)
theorem Qly (s:List UInt8) (i:Nat) (hi:i<s.length) (hs:s.length≤4611686018427387904) (M:Nat):Yn (M+5) s (i:Int)=some (ptR s i):=by
 have hb:=Q4r s i;have hb1:=Q4r s (i+1);have hb2:=Q4r s (i+(1+1));have e:=Q5e hi
 have hw:wrap .i64 ((s[i]).toNat:Int)=(at8 s i:Int):=by rw [← e];exact Z8f _ (by omega)
 unfold Yn;rw [Yq hi,Lg,hw];simp only [Qz,U4];unfold ptR Q3c
 by_cases c1:at8 s i<128
 ·rw [decide_eq_true (by omega),cond_true,if_pos c1,Qeu (by omega)];rfl
 rw [decide_eq_false (show ¬ ((at8 s i:Int)<128) by omega),cond_false,if_neg c1]
 by_cases c2:at8 s i<192
 ·rw [decide_eq_false (show ¬ ((at8 s i:Int)≥192) by omega),cond_false,decide_eq_false (show ¬ ((at8 s i:Int)≥224) by omega),cond_false,decide_eq_false (show ¬ ((at8 s i:Int)≥240) by omega),cond_false,
   if_neg (by omega),if_neg (by omega),if_neg (by omega),Q3b]
 rw [decide_eq_true (show ((at8 s i:Int)≥192) by omega),cond_true]
 by_cases c3:at8 s i<224
 ·rw [decide_eq_true (show ((at8 s i:Int)<224) by omega),cond_true,if_neg (c:=224≤at8 s i∧_) (by omega),if_neg (c:=240≤at8 s i∧_) (by omega)]
  have h0:wrap .i64 ((at8 s i:Int) - 192)=((at8 s i - 192:Nat):Int):=by rw [w64 _ (by omega)];omega
  rw [h0,show (1:Int)=((1:Nat):Int) from rfl,Qt9 _ _ _ _ _ _ (by omega) (by omega) (by omega)]
  by_cases g1:goes s (i+1)
  ·rw [if_pos g1,show 1+1=2 from rfl,Qrf];have hg:=g1.2
   by_cases c4:128≤64 * (at8 s i - 192)+(at8 s (i+1) - 128)
   ·rw [if_pos ⟨c4,by unfold Q6y;omega⟩,if_pos ⟨by omega,c3,g1,c4⟩,Qeu (by omega)];rfl
   rw [if_neg (fun h=>c4 h.1),if_neg (fun h=>c4 h.2.2.2),Q3b]
  rw [if_neg g1,if_neg (fun h=>g1 h.2.2.1),Q3b]
 rw [decide_eq_false (show ¬ ((at8 s i:Int)<224) by omega),cond_false,decide_eq_true (show ((at8 s i:Int)≥224) by omega),cond_true,if_neg (c:=192≤at8 s i∧_) (by omega)]
 by_cases c5:at8 s i<240
 ·rw [decide_eq_true (show ((at8 s i:Int)<240) by omega),cond_true,if_neg (c:=240≤at8 s i∧_) (by omega)]
  have h0:wrap .i64 ((at8 s i:Int) - 224)=((at8 s i - 224:Nat):Int):=by rw [w64 _ (by omega)];omega
  rw [h0,show (1:Int)=((1:Nat):Int) from rfl,Qrn _ _ _ _ _ _ (by omega) (by omega) (by omega)]
  by_cases g1:goes s (i+1)
  ·have hg1:=g1.2;rw [if_pos g1,Qrn _ _ _ _ _ _ (by omega) (by omega) (by omega)]
   by_cases g2:goes s (i+2)
   ·have hg2:=g2.2;rw [if_pos g2,show 1+1+1=3 from rfl,Qqb]
    by_cases c4:2048≤64 * (64 * (at8 s i - 224)+(at8 s (i+1) - 128))+(at8 s (i+2) - 128)∧Q6y (64 * (64 * (at8 s i - 224)+(at8 s (i+1) - 128))+(at8 s (i+2) - 128))
    ·rw [if_pos c4,if_pos ⟨by omega,c5,g1,g2,c4⟩,Qeu (by omega)];rfl
    rw [if_neg c4,if_neg (fun h=>c4 h.2.2.2.2),Q3b]
   rw [if_neg g2,if_neg (fun h=>g2 h.2.2.2.1),Q3b]
  rw [if_neg g1,if_neg (fun h=>g1 h.2.2.1),Q3b]
 rw [decide_eq_false (show ¬ ((at8 s i:Int)<240) by omega),cond_false,decide_eq_true (show ((at8 s i:Int)≥240) by omega),cond_true,if_neg (c:=224≤at8 s i∧_) (by omega)]
 by_cases c6:at8 s i<248
 ·rw [decide_eq_true (show ((at8 s i:Int)<248) by omega),cond_true]
  have h0:wrap .i64 ((at8 s i:Int) - 240)=((at8 s i - 240:Nat):Int):=by rw [w64 _ (by omega)];omega
  rw [h0,show (1:Int)=((1:Nat):Int) from rfl,Qp9 _ _ _ _ _ _ (by omega) (by omega) (by omega)]
  by_cases g1:goes s (i+1)
  ·have hg1:=g1.2;rw [if_pos g1,Qp9 _ _ _ _ _ _ (by omega) (by omega) (by omega)]
   by_cases g2:goes s (i+2)
   ·have hg2:=g2.2;rw [if_pos g2,Qp9 _ _ _ _ _ _ (by omega) (by omega) (by omega)]
    by_cases g3:goes s (i+3)
    ·have hg3:=g3.2;rw [if_pos g3,show 1+1+1+1=4 from rfl,Qqs]
     by_cases c4:65536≤64 * (64 * (64 * (at8 s i - 240)+(at8 s (i+1) - 128))+(at8 s (i+2) - 128))+(at8 s (i+3) - 128)∧Q6y (64 * (64 * (64 * (at8 s i - 240)+(at8 s (i+1) - 128))+(at8 s (i+2) - 128))+(at8 s (i+3) - 128))
     ·rw [if_pos c4,if_pos ⟨by omega,c6,g1,g2,g3,c4⟩,Qeu (by omega)];rfl
     rw [if_neg c4,if_neg (fun h=>c4 h.2.2.2.2.2),Q3b]
    rw [if_neg g3,if_neg (fun h=>g3 h.2.2.2.2.1),Q3b]
   rw [if_neg g2,if_neg (fun h=>g2 h.2.2.2.1),Q3b]
  rw [if_neg g1,if_neg (fun h=>g1 h.2.2.1),Q3b]
 rw [decide_eq_false (show ¬ ((at8 s i:Int)<248) by omega),cond_false,if_neg (fun h=>c6 h.2.1),Q3b]
theorem Qkj (s:List UInt8) (i:Nat) (hi:i<s.length) (hs:s.length≤4611686018427387904):Tot (fun N=>Yn N s (i:Int)) (ptR s i):=
 ⟨5,fun N hN=>by obtain ⟨M,rfl⟩:∃ M,N=M+5:=⟨N - 5,by omega⟩;exact Qly s i hi hs M⟩
theorem Qlm (s:List UInt8) (hs:s.length≤4611686018427387904):Tot (fun N=>Vp N s) (Qpi (Qez s 0)):=by
 refine TotP.tot ?_;refine Qce (L:=fun N n (p:Int)=>Y0 N s n p) (fun p=>∃ i:Nat,p=(i:Int)∧i≤s.length∧Qez s i=Qez s 0) (fun p=>s.length - p.toNat) ?_ 0 ⟨0,rfl,Md _,rfl⟩
 rintro p ⟨i,rfl,hi,hb0⟩
 show Stp _ _ _ (fun N n=>cond (Q4 .lss (i:Int) (s.length:Int)) _ _);rw [Qz];refine Stp.cond (fun h=>?_) (fun h=>?_)
 ·have hl:i<s.length:=by have:=of_decide_eq_true h;omega
  have hw:=Qgr s i hl
  have hb:Qez s i=(if (Q3c s i).1=0∨Qix s i then some i else Qez s (i+(Q3c s i).2)):=by rw [Qez,dif_pos hl]
  refine Stp.bind (V:=(· = ptR s i)) ⟨_,rfl,Qkj s i hl hs⟩ ?_
  rintro v rfl
  unfold ptR
  by_cases hn:Qix s i
  ·rw [if_pos (.inr hn)] at hb;unfold Qix at hn;rw [hn,Q3b];refine Stp.ret ?_;rw [← hb0,hb];rfl
  have hp:ptF (Q3c s i)=(((Q3c s i).1:Int),((Q3c s i).2:Int)):=Qeu (c:=(Q3c s i).1) (w:=(Q3c s i).2) (fun h=>hn (by unfold Qix;rw [← h.1,← h.2]));rw [hp,Xs,Xs];refine Stp.cond (fun h2=>by have:=of_decide_eq_true h2;have:=hw.1;omega) (fun _=>?_);refine Stp.cond (fun h0=>?_) (fun h0=>?_)
  ·have h0:(Q3c s i).1=0:=by have:=of_decide_eq_true h0;omega
   refine Stp.ret ?_;rw [← hb0,hb,if_pos (.inl h0)];rfl
  have h0:(Q3c s i).1≠0:=by have:=of_decide_eq_false h0;omega
  have e:wrap .i64 ((i:Int)+((Q3c s i).2:Int))=((i+(Q3c s i).2:Nat):Int):=by rw [w64 _ (by have:=hw.2.1;omega)];omega
  show Stp _ _ _ (fun N n=>Y0 N s n (wrap .i64 ((i:Int)+((Q3c s i).2:Int))));rw [e];refine Stp.go _ ⟨⟨_,rfl,hw.2.1,?_⟩,by have:=hw.1;have:=hw.2.1;simp only [Mz];omega⟩;rw [← hb0,hb,if_neg]
  rintro (h | h)
  ·exact h0 h
  exact hn h
 have hl:¬ i<s.length:=by have:=of_decide_eq_false h;omega
 refine Stp.ret ?_;rw [← hb0,Qez,dif_neg hl];rfl
theorem Qor (o:Option Nat):decide (Qpi o<0)=o.isNone:=by
 cases o with
 | none=>rfl
 | some p=>exact decide_eq_false (by simp only [Qpi];omega)
theorem Q7h (s:List UInt8):Tot (fun N=>Yk N s) (Q3q s):=by
 refine TotP.tot ?_;show TotP (fun N=>cond (Q4 .leq (s.length:Int) 65535) _ _) _;rw [Q01];refine TotP.cond (fun h=>?_) (fun h=>?_)
 ·have h:s.length≤65535:=by have:=of_decide_eq_true h;omega
  refine TotP.bindE (Qlm s (by omega)) (.ret ?_);rw [Qz,Qor];simp [Q3q,h]
 have h:¬ s.length≤65535:=by have:=of_decide_eq_false h;omega
 exact .ret (by simp [Q3q,h])
theorem Ql7 (s:List UInt8) (hs:s.length≤maxLen) (c:Nat):Tot (fun N=>We N s (c:Int)) (s.any fun b=>b.toNat == c):=by
 have hm:=Q3l;refine TotP.tot ?_;refine Qb2 (L:=fun N n i=>Yg N s (c:Int) n i) s.length (fun i=>∀ j (h:j<s.length),j<i→(s[j]).toNat≠c) (fun i hi hj=>?_) (fun hj=>?_) (fun j _ hj=>by omega)
 ·show Stp _ _ _ (fun N n=>cond (Q4 .lss (i:Int) (s.length:Int)) _ _);refine Stp.cond (fun _=>?_) (fun h=>by rw [Qz] at h;have:=of_decide_eq_false h;omega);refine Stp.idx (Yq hi) ?_;rw [Xs];refine Stp.cond (fun h=>?_) (fun h=>?_)
  ·refine Stp.ret (Eq.symm ?_);rw [Bs];exact ⟨s[i],Nd _,by have:=of_decide_eq_true h;simp;omega⟩
  rw [w64 _ (by omega)];refine Stp.go _ ⟨by omega,fun j hj2 hji=>?_⟩
  by_cases e:j=i
  ·subst e;have:=of_decide_eq_false h;omega
  exact hj j hj2 (by omega)
 show Stp _ _ _ (fun N n=>cond (Q4 .lss (s.length:Int) (s.length:Int)) _ _);refine Stp.cond (fun h=>by rw [Qz] at h;have:=of_decide_eq_true h;omega) (fun _=>?_);refine Stp.ret (Eq.symm ?_);rw [Ck];intro b hb;obtain ⟨j,hj2,rfl⟩:=Bm hb;have:=hj j hj2 hj2;simpa using this
theorem Qnz (s:List UInt8):Qlu s=((s.any fun b=>b.toNat == 43)||(s.any fun b=>b.toNat == 35)):=by
 unfold Qlu
 induction s with
 | nil=>rfl
 | cons b s ih=>simp only [List.any_cons,ih];cases b.toNat == 43<;>cases b.toNat == 35<;>cases (s.any fun b=>b.toNat == 43)<;>cases (s.any fun b=>b.toNat == 35)<;>rfl
theorem Qev (s:List UInt8) (hs:s.length≤maxLen):Tot (fun N=>Qm N s) (Qed s):=by
 refine TotP.tot ?_;show TotP (fun N=>cond (G0 .neq s []) _ _) _
 have e:G0 .neq s []=decide (s ≠ []):=by cases s<;>rfl
 rw [e];unfold Qed;rw [Qnz];refine TotP.cond (fun h=>?_) (fun h => .ret (by rw [h];rfl));rw [h];refine TotP.bindE (Q7h s) ?_;refine TotP.cond (fun h=>?_) (fun h => .ret (by rw [h];rfl));rw [h];refine TotP.bindE (Ql7 s hs 43) ?_;refine TotP.cond (fun h=>?_) (fun h => .ret ?_)
 ·refine TotP.bindE (Ql7 s hs 35) (.ret ?_)
  have h:(s.any fun b=>b.toNat == 43)=false:=by simpa using h
  rw [h];rfl
 have h:(s.any fun b=>b.toNat == 43)=true:=by simpa using h
 rw [h];rfl
end
end Go.Av
namespace Go.Av
noncomputable section
def noP:Q5:=⟨0,false,false,0,0,[],[],false,0,[],false,[],false,[],false,(⟨[],[],0,false,[]⟩:W7),false,0,[],[],[]⟩
def noM:Qey:=⟨0,(⟨false,0,false,false,false,0⟩:Q6o),0,0,0,false,0,0,0,[],[]⟩
def noF:Wb:=⟨0,0,[],[]⟩
section
variable (p:Int) (t pl:List UInt8) (q id:Int)
theorem Qgh:Tot (fun N=>Ve N 3 []) 0:=⟨1,fun N hN=>by
 obtain ⟨M,rfl⟩:∃ M,N=M+1:=⟨N - 1,by omega⟩
 rfl⟩
theorem Qlc (N:Nat) (x a b:Int):Xb N x a b=some (decide (a≤x)&&decide (x≤b)):=by
 unfold Xb;rw [U4,Q01]
 by_cases h:a≤x
 ·rw [decide_eq_true (p:=x≥a) h];rfl
 rw [decide_eq_false (p:=x≥a) h];rfl
end
end
end Go.Av
namespace Go.Av
noncomputable section
def ppk (d r:Bool) (q i:Int) (t pl:List UInt8):Q5:=⟨3,d,r,q,i,t,pl,false,0,[],false,[],false,[],false,(⟨[],[],0,false,[]⟩:W7),false,0,[],[],[]⟩
structure GP (d:Bool) (q i:Int) (t pl:List UInt8):Prop where
 hq:q=0∨q=1∨q=2
 dup:q=0→d=false
 id0:q=0→i=0
 id1:q≠0→1≤i∧i≤65535
 nm:Qed t=true
 tl:t.length≤2000
 hpl:pl.length≤2000
def flg (d r:Bool) (q:Int):Int:=2 * q+(if r then 1 else 0)+(if d then 8 else 0)
def idB (q i:Int):List UInt8:=if q=0 then [] else Q1t i.toNat 2
def prB (v:Int):List UInt8:=if v=5 then [0] else []
def Q3k (v q i:Int) (t pl:List UInt8):List UInt8:=((Q1t t.length 2++t)++idB q i)++prB v++pl
theorem Zes (n:Nat) (h:n<65536):Tot (fun N=>V0 N (n:Int) 2) (Q1t n 2):=⟨11,fun N hN=>Qkn N n 2 (by omega) (by omega) (by omega)⟩
theorem Qqh (i:Int) (h:0≤i∧i≤65535):Tot (fun N=>V0 N (wrap .u64 i) 2) (Q1t i.toNat 2):=by
 have:=Zes i.toNat (by omega)
 rwa [show ((i.toNat:Nat):Int)=wrap .u64 i by rw [Qqd (by omega)];omega] at this
theorem Qsr (k:Int):Tot (fun N=>U0 N k []) ([0],0):=by
 refine ⟨70,fun N hN=>?_⟩;obtain ⟨M,rfl⟩:∃ M,N=M+70:=⟨N - 70,by omega⟩;rfl
section
variable {d r:Bool} {q i:Int} {t pl:List UInt8} (g:GP d q i t pl) {v:Int}
include g
theorem Qn9 (hv:v=4∨v=5) (N:Nat):Vd N v (ppk d r q i t pl)=some (flg d r q,0):=by
 have hd:=g.dup;have e:Vd N v (ppk d r q i t pl)=Vd 0 v (ppk d r q 0 [] []):=rfl;rw [e]
 rcases hv with rfl | rfl<;>rcases g.hq with rfl | rfl | rfl<;>cases d<;>cases r<;>first | exact absurd (hd rfl) (by decide) | decide
theorem Qpb:Tot (fun N=>Wm N v (ppk d r q i t pl)) true:=by
 refine TotP.tot ?_;unfold Wm;refine TotP.bind (Qea _ _ ⟨Md _,Md _,Md _,Md _⟩) (fun b hb=>?_);obtain rfl:b=true:=hb.2 rfl;show TotP (fun N=>cond (Q4 .eql v 4) (cond (Q4 .eql q 0) (some (Q4 .eql i 0)) (cond (Q4 .gtr i 0) (some (Q4 .lss i 65536)) (some false))) (cond (Q4 .eql q 0) (some (Q4 .eql i 0)) (cond (Q4 .gtr i 0) (some (Q4 .lss i 65536)) (some false)))) (· = true)
 have hr:TotP (fun _=>cond (Q4 .eql q 0) (some (Q4 .eql i 0)) (cond (Q4 .gtr i 0) (some (Q4 .lss i 65536)) (some false))) (· = true):=by
  rw [Xs,Xs,W6,Qz];refine TotP.cond (fun h => .ret (decide_eq_true (g.id0 (of_decide_eq_true h)))) (fun h=>?_);have:=g.id1 (of_decide_eq_false h);exact TotP.cond (fun _ => .ret (decide_eq_true (by omega))) (fun h=>absurd (of_decide_eq_false h) (by omega))
 exact TotP.cond (fun _=>hr) (fun _=>hr)
theorem Qpt:Tot (fun N=>Vb N v (ppk d r q i t pl)) true:=by
 refine TotP.tot ?_;unfold Vb;refine TotP.bind (V:=fun _=>True) ⟨(0,false),trivial,1,fun N hN=>?_⟩ (fun b _=>?_)
 ·obtain ⟨M,rfl⟩:∃ M,N=M+1:=⟨N - 1,by omega⟩;rfl
 have hn:=Qhj t (by have:=g.tl;have:=ml2;omega);rw [g.nm] at hn;exact TotP.bindE hn (.ret rfl)
theorem Qr9 (hv:v=4∨v=5):Tot (fun N=>Vz N v (ppk d r q i t pl)) 0:=by
 refine TotP.tot ?_
 have hk:∀ N,Jp N v=some true:=fun N=>by rcases hv with rfl | rfl<;>rfl
 have hp:Tot (fun N=>Ve N 3 []) 0:=Qgh;unfold Vz;refine TotP.bindE (.of hk) ?_;refine TotP.cond (fun h=>nomatch h) (fun _=>?_);refine TotP.bindE (v:=0) (.of fun _=>rfl) ?_;refine TotP.cond (fun h=>nomatch h) (fun _=>?_);refine TotP.bindE (.of (Qn9 g hv)) ?_;refine TotP.cond (fun h=>nomatch h) (fun _=>?_);refine TotP.bindE (Qpb g) ?_;refine TotP.bindE (v:=0) (.of fun _=>rfl) ?_;refine TotP.cond (fun h=>nomatch h) (fun _=>?_);refine TotP.bindE (Qpt g) ?_;refine TotP.bindE (v:=0) (.of fun _=>rfl) ?_;refine TotP.cond (fun h=>nomatch h) (fun _=>?_);refine TotP.bindE hp ?_;exact TotP.cond (fun h=>nomatch h) (fun _ => .ret rfl)
theorem Qt0:Tot (fun N=>Ut N t) (Q1t t.length 2++t,0):=by
 refine TotP.tot ?_
 have h:Q3q t=true:=by have:=g.nm;unfold Qed at this;simp only [Lb] at this;exact this.1.2
 have ht:=Qd7 t;rw [h] at ht;unfold Ut;refine TotP.bindE ht ?_;refine TotP.cond (fun h=>nomatch h) (fun _=>?_);refine TotP.bind (V:=(· = Q1t t.length 2++t)) ?_ (fun b hb => .ret (by rw [hb]));unfold Uw;have:=g.tl;refine TotP.bindE (v:=Q1t t.length 2) ?_ (TotP.chk (by rw [Mc,Gn];omega) (.ret rfl));have:=Qqh (t.length:Int) (by omega);simpa using this
theorem Qt8 (hv:v=4∨v=5):Tot (fun N=>Ur N v (ppk d r q i t pl)) (Q3k v q i t pl,0):=by
 refine TotP.tot ?_;have h1:=g.tl;have h2:=g.hpl;have hb:=Gn 2
 have hx:∀ f:List UInt8,f.length≤5000→TotP (fun N=>cond (Q4 .eql v 5) ((U0 N 3 []).bind fun v11=>cond (Nat.ble (f.length+v11.1.length) 4611686018427387904) (cond (Nat.ble ((f++v11.1).length+pl.length) 4611686018427387904) (some (((f++v11.1)++pl),(0:Int))) none) none) (cond (Nat.ble (f.length+pl.length) 4611686018427387904) (some ((f++pl),0)) none)) (· = (f++prB v++pl,0)):=fun f hf=>by
  rw [Xs];refine TotP.cond (fun h=>?_) (fun h=>?_)
  ·refine TotP.bindE (Qsr 3) ?_;refine TotP.chk (by rw [Mc];simp only [Lq,Mt];omega) ?_;refine TotP.chk (by rw [Mc];simp only [Lh,Lq,Mt];omega) (.ret ?_);unfold prB;rw [if_pos (of_decide_eq_true h)]
  refine TotP.chk (by rw [Mc];omega) (.ret ?_);unfold prB;rw [if_neg (of_decide_eq_false h),Nq]
 unfold Ur;refine TotP.bindE (Qr9 g hv) ?_;refine TotP.cond (fun h=>nomatch h) (fun _=>?_);refine TotP.bindE (Qt0 g) ?_;show TotP (fun N=>cond (Q4 .neq q 0) _ _) _;rw [Wd];refine TotP.cond (fun h=>?_) (fun h=>?_)
 ·have h:=of_decide_eq_true h;have hi:=g.id1 h;refine TotP.bindE (Qqh i (by omega)) ?_;refine TotP.chk (by rw [Mc];simp only [Lh,hb,ppk];omega) ?_;refine (hx ((Q1t t.length 2++t)++Q1t i.toNat 2) (by simp only [Lh,hb];omega)).mono fun w hw=>?_;rw [hw];unfold Q3k idB;rw [if_neg h]
 have h:q=0:=Decidable.byContradiction fun x=>of_decide_eq_false h x;refine (hx (Q1t t.length 2++t) (by simp only [Lh,hb];omega)).mono fun w hw=>?_;rw [hw];unfold Q3k idB;rw [if_pos h,Nq]
end
end
end Go.Av
namespace Go.Av
noncomputable section
section
variable {p:Q5} (h:Qlf p)
include h
end
end
end Go.Av
namespace Go.Av
noncomputable section
section
variable {p:Q5} (h:Qlf p)
include h
end
section
variable {p:Q5} (h:Qlf p)
include h
end
end
end Go.Av
namespace Go.Av
noncomputable section
structure Cd (B:Nat) (c:J8):Prop where
 d:c.do'=1∨c.do'=2
 nm:c.m.Name.length≤70000
 da:c.m.Data.length≤70000
 ou:c.out.length≤B
theorem Cd.mono {B C:Nat} {c:J8} (h:Cd B c) (hB:B≤C):Cd C c:=⟨h.d,h.nm,h.da,Na h.ou hB⟩
theorem Cd.zero {B:Nat} {c:J8} (h:Cd B c):Q4 .eql c.do' 0=false:=by
 have:=h.d;rw [Xs];exact decide_eq_false (by omega)
section
variable {B:Nat} {c:J8} (h:Cd B c) (hB:B≤10000000)
include h hB
end
section
variable {B:Nat} {c:J8} (h:Cd B c) (hB:B≤1000000)
include h hB

end
section
variable {B:Nat} {c:J8} (h:Cd B c) (hB:B≤1000)
include h hB

end
structure OkM (m:Qey):Prop where
 nm:m.Name.length≤70000
 da:m.Data.length≤70000
section
variable {m:Qey} (h:OkM m)
include h
end
section
variable {m:Qey} (h:OkM m)
include h
end
structure Qvi (d:Q5o):Prop where
 hops:d.Hops.length≤30
 node:∀ x∈d.Hops,x.Node.length≤300
 msg:OkM d.Msg
section
variable {d:Q5o} (h:Qvi d) (l:Vv)
include h
end
end
end Go.Av
namespace Go.Av
noncomputable section
theorem Qjy (p:Q5) (h1:p.Filters.length≤maxLen) (h2:p.Props.length≤maxLen) (h3:p.Will.Props.length≤maxLen):TotP (fun N=>Xa N p) (fun v=>v=true→Qlf p):=by
 have hm:=Q3l
 have h30:300≤maxLen:=by unfold maxLen;decide
 have tail:(p.Filters.length≤30→∀ f∈p.Filters,f.Topic.length≤2000)→TotP (fun N=>cond (Q4 .leq (p.Topic.length:Int) 2000) (cond (Q4 .leq (p.Payload.length:Int) 2000) (cond (Q4 .leq (p.Client.length:Int) 2000) (cond (Q4 .leq (p.User.length:Int) 2000) (cond (Q4 .leq (p.Pass.length:Int) 2000)
  (cond (Q4 .leq (p.Will.Topic.length:Int) 2000) (cond (Q4 .leq (p.Will.Payload.length:Int) 2000) (cond (Q4 .leq ((Qc (cI .i64) p.Codes).length:Int) 30) (cond (Q4 .leq (p.Filters.length:Int) 30)
  ((Z1 N p.Props).bind fun v26=>cond v26 ((Z1 N p.Will.Props).bind fun v29=>some v29) (some false)) (some false)) (some false)) (some false)) (some false)) (some false)) (some false)) (some false)) (some false)) (some false)) (fun v=>v=true→Qlf p):=by
  intro hf;rw [Qa]
  iterate 9 refine TotP.cond (fun _=>?_) (fun _ => .ret (fun h=>nomatch h))
  rename_i a1 a2 a3 a4 a5 a6 a7 a8 a9;rw [Q01] at a1 a2 a3 a4 a5 a6 a7 a8 a9;have a1:=of_decide_eq_true a1;have a2:=of_decide_eq_true a2;have a3:=of_decide_eq_true a3;have a4:=of_decide_eq_true a4;have a5:=of_decide_eq_true a5;have a6:=of_decide_eq_true a6;have a7:=of_decide_eq_true a7;have a8:=of_decide_eq_true a8;have a9:=of_decide_eq_true a9;refine TotP.bind (Qe7 _ h2) (fun v hv=>TotP.cond (fun hv1=>?_) (fun _ => .ret (fun h=>nomatch h)));refine TotP.bind (Qe7 _ h3) (fun w hw => .ret (fun hw1=>?_));have g1:=hv hv1;have g2:=hw hw1;exact ⟨⟨by omega,by omega,by omega,by omega⟩,⟨g1.1,fun x hx=>Na (g1.2 x hx).1 h30⟩,⟨g2.1,fun x hx=>Na (g2.2 x hx).1 h30⟩,by omega,by omega,by omega,by omega,by omega,by omega,by omega,by omega,by omega,hf (by omega)⟩
 refine Qb2 (L:=fun N n s=>Z4 N p n s) p.Filters.length (fun i=>∀ j (h:j<p.Filters.length),j<i→(p.Filters[j]).Topic.length≤2000) (fun i hi hj=>?_) (fun hj=>?_) (fun j _ hj=>by omega)
 ·show Stp _ _ _ (fun N n=>cond (Q4 .lss (i:Int) ((Qc Qn.cells p.Filters).length:Int)) _ _);rw [Qa,Qz];refine Stp.cond (fun _=>?_) (fun h=>by have:=of_decide_eq_false h;omega);refine Stp.cond (fun _=>?_) (fun h=>Stp.fin (tail (fun hc=>?_)))
  ·refine Stp.idx (Yq hi) ?_;rw [W6];refine Stp.cond (fun _=>Stp.ret (fun h=>nomatch h)) (fun h1=>?_);have h1:=of_decide_eq_false h1;rw [w64 _ (by omega)];refine Stp.go (L:=fun N n s=>Z4 N p n s) _ ⟨by omega,fun j hj' hji=>?_⟩
   by_cases e:j=i
   ·subst e;omega
   exact hj j hj' (by omega)
  rw [Qz] at h;have:=of_decide_eq_false h;omega
 show Stp _ _ _ (fun N n=>cond (Q4 .lss (p.Filters.length:Int) ((Qc Qn.cells p.Filters).length:Int)) _ _);rw [Qa,Qz];refine Stp.cond (fun h=>by have:=of_decide_eq_true h;omega) (fun _=>Stp.fin (tail (fun _ f hf=>?_)));obtain ⟨j,hj',rfl⟩:=Bm hf;exact hj j hj' hj'
structure LE (e:Zo):Prop where
 topic:e.Topic.length≤2000
 payload:e.Payload.length≤2000
 props:OkP e.Props
 pk:Qlf e.Packet
 dg:Qvi ⟨e.Hops,e.Msg⟩
 fb:FB e.Frame
end
end Go.Av
namespace Go.Av
noncomputable section
section
variable {R S T A:Type}
theorem TotP.succ {f g:Nat→Option R} {Q:R→Prop} (e:∀ N,f (N+1)=g N) (h:TotP g Q):TotP f Q:=by
 obtain ⟨r,hr,N0,hN⟩:=h;refine ⟨r,hr,N0+1,fun N h=>?_⟩;obtain ⟨M,rfl⟩:∃ M,N=M+1:=⟨N - 1,by omega⟩;rw [e];exact hN M (by omega)
end
end
end Go.Av
namespace Go.Av
noncomputable section
section
variable {T:Type}
theorem Qbz {L:Nat→Nat→Int→Option Bool} {l:List T} (hl:l.length≤100000) (Qr:∀ i (hi:i<l.length),Stp (fun N n s=>L N n s) (fun s=>s=((i+1:Nat):Int)∧True) (· = true) (fun N n=>L N (n+1) (i:Int)))
  (fin:Stp (fun N n s=>L N n s) (fun _=>False) (· = true) (fun N n=>L N (n+1) (l.length:Int))):TotP (fun N=>L N N 0) (· = true):=
 Qb2 (L:=L) l.length (fun _=>True) (fun i hi _=>Qr i hi) (fun _=>fin) trivial
end
theorem Q8q (l:List Qj) (hl:l.length≤100000):TotP (fun N=>Zy N l l) (· = true):=by
 refine TotP.cond (fun h=>absurd h (by rw [Wd];simp)) (fun _=>?_);refine Qbz (L:=fun N n s=>Zk N l l n s) hl (fun i hi=>?_) ?_
 ·show Stp _ _ _ (fun N n=>cond (Q4 .lss (i:Int) ((Qc Qj.cells l).length:Int)) _ _);refine Stp.cond (fun _=>Stp.idx (Yq hi) (Stp.idx (Yq hi) (Stp.cond (fun h=>absurd h (by simp)) (fun _=>?_)))) (fun h=>absurd h (by rw [Qa,Qz];simp [hi]));rw [w64 _ (by omega)];exact Stp.go (L:=fun N n s=>Zk N l l n s) _ ⟨by omega,trivial⟩
 show Stp _ _ _ (fun N n=>cond (Q4 .lss (l.length:Int) ((Qc Qj.cells l).length:Int)) _ _);exact Stp.cond (fun h=>absurd h (by rw [Qa,Qz];simp)) (fun _=>Stp.ret rfl)
theorem Qkd (l:List Int) (hl:l.length≤100000):TotP (fun N=>Yu N l l) (· = true):=by
 refine TotP.cond (fun h=>absurd h (by rw [Wd];simp)) (fun _=>?_);refine Qbz (L:=fun N n s=>Zh N l l n s) hl (fun i hi=>?_) ?_
 ·show Stp _ _ _ (fun N n=>cond (Q4 .lss (i:Int) ((Qc (cI .i64) l).length:Int)) _ _);refine Stp.cond (fun _=>Stp.idx (Yq hi) (Stp.idx (Yq hi) (Stp.cond (fun h=>absurd h (by rw [Wd];simp)) (fun _=>?_)))) (fun h=>absurd h (by rw [Qa,Qz];simp [hi]));rw [w64 _ (by omega)];exact Stp.go (L:=fun N n s=>Zh N l l n s) _ ⟨by omega,trivial⟩
 show Stp _ _ _ (fun N n=>cond (Q4 .lss (l.length:Int) ((Qc (cI .i64) l).length:Int)) _ _);exact Stp.cond (fun h=>absurd h (by rw [Qa,Qz];simp)) (fun _=>Stp.ret rfl)
theorem Qer (l:List Qn) (hl:l.length≤100000):TotP (fun N=>Yb N l l) (· = true):=by
 refine TotP.cond (fun h=>absurd h (by rw [Wd];simp)) (fun _=>?_);refine Qbz (L:=fun N n s=>Z2 N l l n s) hl (fun i hi=>?_) ?_
 ·show Stp _ _ _ (fun N n=>cond (Q4 .lss (i:Int) ((Qc Qn.cells l).length:Int)) _ _);refine Stp.cond (fun _=>Stp.idx (Yq hi) (Stp.idx (Yq hi) (Stp.cond (fun h=>absurd h (by simp)) (fun _=>?_)))) (fun h=>absurd h (by rw [Qa,Qz];simp [hi]));rw [w64 _ (by omega)];exact Stp.go (L:=fun N n s=>Z2 N l l n s) _ ⟨by omega,trivial⟩
 show Stp _ _ _ (fun N n=>cond (Q4 .lss (l.length:Int) ((Qc Qn.cells l).length:Int)) _ _);exact Stp.cond (fun h=>absurd h (by rw [Qa,Qz];simp)) (fun _=>Stp.ret rfl)
structure Qpq (p:Q5):Prop where
 codes:p.Codes.length≤100000
 filters:p.Filters.length≤100000
 props:p.Props.length≤100000
 wprops:p.Will.Props.length≤100000
theorem Qju (s:List UInt8):G0 .neq s s=false:=by rw [Qh7];simp
theorem Qjv (s:Int):Q4 .neq s s=false:=by rw [Wd];simp
theorem Q8p (p:Q5) (h:Qpq p):TotP (fun N=>Ze N p p) (· = true):=by
 unfold Ze;simp only [Qju,Qjv,beq_self_eq_true,Bi,cond_false];refine TotP.bind (Q8q _ h.wprops) (fun v hv=>?_);subst hv;simp only [Bi,cond_false];refine TotP.bind (Qkd _ h.codes) (fun v hv=>?_);subst hv;simp only [cond_true];refine TotP.bind (Qer _ h.filters) (fun v hv=>?_);subst hv;simp only [cond_true];exact TotP.bind (Q8q _ h.props) (fun v hv => .ret hv)
end
end Go.Av
namespace Go.Av
noncomputable section
def evP (p:Int) (d r:Bool) (q i:Int) (t pl:List UInt8):Zo:=⟨p,1,t,pl,q,r,d,i,[],0,[],0,noP,noM,noF⟩
theorem Qq4 {p:Int} {d r:Bool} {q i:Int} {t pl:List UInt8}:Tot (fun N=>Q1d N (evP p d r q i t pl)) true:=⟨9,fun N hN=>by
 obtain ⟨M,rfl⟩:∃ M,N=M+9:=⟨N - 9,by omega⟩
 rfl⟩
theorem inT {x a b:Int} (h:a≤x∧x≤b) (N:Nat):Xb N x a b=some true:=by
 rw [Qlc,decide_eq_true h.1,decide_eq_true h.2];rfl
section
variable {d r:Bool} {q i:Int} {t pl:List UInt8} (g:GP d q i t pl) {p:Int} (hp:p=1∨p=2)
include g
theorem GP.idR:0≤i∧i≤65535:=by
 by_cases h:q=0
 ·have:=g.id0 h;omega
 have:=g.id1 h;omega
theorem GP.qR:0≤q∧q≤2:=by rcases g.hq with h | h | h<;>omega
theorem GP.ack:decide (i≠0)=decide (q≠0):=by
 by_cases h:q=0
 ·rw [h,g.id0 h]
 have:=g.id1 h;rw [decide_eq_true h,decide_eq_true (by omega)]
include hp
theorem Zej:Tot (fun N=>Xq N (evP p d r q i t pl)) 0:=by
 refine TotP.tot ?_
 have h3:Q4 .eql p 3=false:=by rw [Xs,decide_eq_false (by omega)]
 have hz:Tot (fun N=>Ve N 3 []) 0:=Qgh;unfold Xq;show TotP (fun N=>cond (Q4 .eql p 3) _ _) _;rw [h3];show TotP (fun N=>(Xb N 0 0 65535).bind fun v55=>cond (!v55) (some 2) (Xn N (evP p d r q i t pl))) _;refine TotP.bindE (.of (inT (by omega))) ?_;refine TotP.cond (fun h=>nomatch h) (fun _=>?_);unfold Xn;refine TotP.bindE Qq4 ?_;refine TotP.cond (fun h=>nomatch h) (fun _=>?_);refine TotP.bindE hz ?_;exact TotP.cond (fun h=>nomatch h) (fun _ => .ret rfl)
theorem Zel:Tot (fun N=>Xp N (evP p d r q i t pl) (decide (q≠0))) 0:=by
 refine TotP.tot ?_;unfold Xp;refine TotP.bindE (.of (inT (GP.idR g))) ?_;refine TotP.cond (fun h=>nomatch h) (fun _=>?_);show TotP (fun N=>cond (!(decide (q≠0) == Q4 .neq i 0)) _ _) _;rw [Wd,GP.ack g];refine TotP.cond (fun h=>by simp at h) (fun _=>?_)
 have k:TotP (fun N=>Xo N (evP p d r q i t pl)) (· = 0):=by
  have ⟨N0,h⟩:=Zej (r:=r) g hp;exact ⟨0,rfl,N0,h⟩
 refine TotP.cond (fun h=>?_) (fun _=>k);refine TotP.cond (fun h2=>?_) (fun _=>k)
 have h0:q=0:=by simpa using h2
 exact absurd ((g.dup h0).symm.trans h) (by decide)
theorem Qsg:Tot (fun N=>U8 N (evP p d r q i t pl)) 0:=by
 refine TotP.tot ?_;have hn:=Qhj t (by have:=g.tl;have:=ml2;omega);rw [g.nm] at hn
 have k:TotP (fun N=>Xi N (evP p d r q i t pl) (decide (q≠0))) (· = 0):=by
  unfold Xi;refine TotP.bindE (v:=true) (.of fun N=>by rcases hp with rfl | rfl<;>rfl) ?_;refine TotP.cond (fun h=>nomatch h) (fun _=>?_);refine TotP.cond (fun h=>nomatch h) (fun _=>?_);refine TotP.bindE hn ?_;refine TotP.cond (fun h=>nomatch h) (fun _=>?_);refine TotP.bindE (.of (inT (GP.qR g))) ?_;refine TotP.cond (fun h=>nomatch h) (fun _=>?_);have ⟨N0,h⟩:=Zel (r:=r) g hp;exact ⟨0,rfl,N0,h⟩
 unfold U8
 rcases g.hq with e | e | e
 ·subst e;exact k
 ·subst e;exact k
 subst e;exact k
theorem Qow:Tot (fun N=>Jy N (evP p d r q i t pl) ⟨1048576,32⟩) 0:=by
 refine TotP.tot ?_;unfold Jy;refine TotP.bindE (v:=true) (.of fun _=>rfl) ?_;refine TotP.cond (fun h=>nomatch h) (fun _=>?_);refine TotP.cond (fun _=>?_) (fun h=>nomatch h);refine TotP.bindE (Qsg g hp) ?_;refine TotP.cond (fun h=>nomatch h) (fun _=>?_);refine TotP.cond (fun h=>?_) (fun _ => .ret rfl)
 have h:(pl.length:Int)>1048576:=by rw [W6] at h;exact of_decide_eq_true h
 have:=g.hpl;omega
end
section
variable {d r:Bool} {q i:Int} {t pl:List UInt8} (g:GP d q i t pl) {v:Int} (hv:v=4∨v=5)
include g hv
theorem Qqx:Tot (fun N=>Q11 N v (ppk d r q i t pl)) (Q3k v q i t pl,0):=by
 refine TotP.tot ?_
 have hl:(Q3k v q i t pl).length≤6000:=by
  have:=g.tl;have:=g.hpl;have:=Gn 2;unfold Q3k idB prB
  by_cases h:q=0<;>by_cases h2:v=5<;>simp only [h,h2,if_true,if_false,Lh,this,Lq,Mt]<;>omega
 have hd:Tot (fun N=>Yv N ⟨v,ppk d r q i t pl⟩) (Q3k v q i t pl,0):=by
  refine TotP.tot ?_;exact TotP.bindE (Qt8 g hv) (.ret rfl)
 have k:TotP (fun N=>(Yv N ⟨v,ppk d r q i t pl⟩).bind fun v6=>cond (Q4 .neq v6.2 0) (some ([],v6.2)) (cond (Q4 .gtr (v6.1.length:Int) 268435455) (some ([],4)) (some (v6.1,0)))) (· = (Q3k v q i t pl,0)):=by
  refine TotP.bindE hd ?_;refine TotP.cond (fun h=>nomatch h) (fun _=>?_);refine TotP.cond (fun h=>?_) (fun _ => .ret rfl);rw [W6] at h;have h:((Q3k v q i t pl).length:Int)>268435455:=of_decide_eq_true h;omega
 have ⟨x,hx,N0,h⟩:=k;subst hx;refine ⟨_,rfl,N0,fun N hN=>?_⟩;have h:=h N hN
 rcases hv with rfl | rfl
 ·exact h
 exact h
theorem Qrr:Tot (fun N=>Q1l N v (ppk d r q i t pl)) 0:=by
 refine TotP.tot ?_;exact TotP.bindE (Qqx g hv) (.ret rfl)
end
end
end Go.Av
namespace Go.Av
noncomputable section
theorem Qlp (n:Int) (h:0≤n∧n<18446744073709551616) (w:Nat) (hw:w≤8):Tot (fun N=>V0 N (wrap .u64 n) (w:Int)) (Q1t n.toNat w):=by
 refine ⟨11,fun N hN=>?_⟩;have:=Qkn N n.toNat w (by omega) hw (by omega)
 rwa [show ((n.toNat:Nat):Int)=wrap .u64 n by rw [Qqd (by omega)];omega] at this
set_option maxRecDepth 20000 in
theorem Qrk (n i:Nat) (hi:i≤7):wrap .u8 (Qiz .u64 (n:Int) (wrap .u64 (wrap .i64 (8 * (i:Int)))))=((n / 256 ^ i % 256:Nat):Int):=by
 have e1:wrap .u64 (wrap .i64 (8 * (i:Int)))=((8 * i:Nat):Int):=by rw [w64 _ (by omega),Qqd (by omega)];omega
 rw [e1,Qmj];simp only [Qiz]
 have:min (((8 * i:Nat):Int).toNat) IntKind.u64.bits=8 * i:=by simp [IntKind.bits];omega
 rw [this,Ci _ (by have:=Q8t (8 * i);omega)];have e0:(2:Nat) ^ (8 * i)=256 ^ i:=Nat.pow_mul 2 8 i
 have e:((2:Int) ^ (8 * i))=((256 ^ i:Nat):Int):=by rw [← e0];push_cast;rfl
 rw [e]
 push_cast
 rfl
theorem Qm0 (n w:Nat) (hw:1≤w∧w≤8):Tot (fun N=>Zl N (n:Int) (w:Int)) (Q1t n w):=by
 refine TotP.tot ?_
 have hs:wrap .i64 ((ifB (decide ((ifB (decide ((16:Int)<(w:Int))) 16 (w:Int))>0)) (ifB (decide ((16:Int)<(w:Int))) 16 (w:Int)) 0) - 1)=((w:Int) - 1):=by
  rw [decide_eq_false (p:=(16:Int)<w) (by omega)];show wrap .i64 ((ifB (decide ((w:Int)>0)) (w:Int) 0) - 1)=_;rw [decide_eq_true (p:=(w:Int)>0) (by omega)];show wrap .i64 ((w:Int) - 1)=_;exact w64 _ (by omega)
 show TotP (fun N=>Zb N (n:Int) N (wrap .i64 _) []) _;rw [hs];refine Qce (L:=fun N m (q:Int×List Int)=>Zb N (n:Int) m q.1 q.2) (fun q=>∃ j:Nat,q.1=(j:Int) - 1∧j≤w∧q.2.length=w - j∧(q.2.map fun n=>UInt8.ofNat n.toNat)=Q1t (n / 256 ^ j) (w - j)) (fun q=>(q.1+1).toNat) ?_ ((w:Int) - 1,[]) ⟨w,rfl,by omega,by simp,by rw [Bw];rfl⟩
 rintro ⟨i,l⟩ ⟨j,h1,h2,h3,h4⟩
 simp only at h1 h2 h3 h4
 show Stp _ _ _ (fun N m=>cond (Q4 .geq i 0) (cond (Q4 .lss i 8) _ _) _);dsimp only;rw [U4,Qz];refine Stp.cond (fun g=>?_) (fun g=>Stp.ret ?_)
 ·have g:=of_decide_eq_true g;obtain ⟨k,rfl⟩:∃ k,j=k+1:=⟨j - 1,by omega⟩
  have hi:i=(k:Int):=by omega
  subst hi;refine Stp.cond (fun _=>?_) (fun g2=>absurd (of_decide_eq_false g2) (by omega));refine Stp.chk (decide_eq_true (by rw [w64 _ (by omega),Qqd (by omega)];omega)) ?_;refine Stp.chk (by rw [Mc];omega) ?_;rw [Qrk n k (by omega),w64 _ (by omega)];refine Stp.go (L:=fun N m (q:Int×List Int)=>Zb N (n:Int) m q.1 q.2) (_,_) ⟨⟨k,rfl,by omega,?_,?_⟩,by simp only;omega⟩
  ·simp only [Lh,Mu];omega
  rw [Ca,h4,show w - k=(w - (k+1))+1 by omega];show _=Q1t (n / 256 ^ k / 256) (w - (k+1)) ++ [UInt8.ofNat (n / 256 ^ k % 256)];rw [Nat.div_div_eq_div_mul,← Cp];rfl
 have g:=of_decide_eq_false g
 obtain rfl:j=0:=by omega
 rw [h4,Nat.pow_zero,Nat.div_one,Nat.sub_zero]
theorem Qew (n:Int) (h:0≤n∧n<18446744073709551616) (w:Nat) (hw:1≤w∧w≤8):Tot (fun N=>Zl N (wrap .u64 n) (w:Int)) (Q1t n.toNat w):=by
 have:=Qm0 n.toNat w hw
 rwa [show ((n.toNat:Nat):Int)=wrap .u64 n by rw [Qqd (by omega)];omega] at this
theorem bP {x:Bool} (h:(!x)=false):x=true:=by cases x;cases h;rfl
def vb (n:Nat):List UInt8:=if n<128 then [UInt8.ofNat n] else UInt8.ofNat (n % 128+128)::vb (n / 128)
termination_by n
decreasing_by omega
theorem Qe8 {n:Nat} (h:n<128):vb n = [UInt8.ofNat n]:=by rw [vb,if_pos h]
theorem Qie {n:Nat} (h:128≤n):vb n=UInt8.ofNat (n % 128+128)::vb (n / 128):=by rw [vb,if_neg (by omega)]
theorem Qna {n:Nat} (h:n≤268435455):(vb n).length=if n<128 then 1 else if n<16384 then 2 else if n<2097152 then 3 else 4:=by
 by_cases h1:n<128
 ·rw [Qe8 h1,if_pos h1];rfl
 rw [if_neg h1,Qie (by omega),Lq]
 by_cases h2:n<16384
 ·rw [Qe8 (by omega),if_pos h2];rfl
 rw [if_neg h2,Qie (by omega),Lq]
 by_cases h3:n<2097152
 ·rw [Qe8 (by omega),if_pos h3];rfl
 rw [if_neg h3,Qie (by omega),Lq,Qe8 (by omega)];rfl
theorem Qpg {n:Nat} (h:n≤268435455):1≤(vb n).length∧(vb n).length≤4:=by
 rw [Qna h]
 (repeat' split)<;>omega
theorem Qss {a:Nat} (h:a<128):orI .u8 (a:Int) 128=((a+128:Nat):Int):=by
 have:∀ a:Fin 128,orI .u8 ((a.val:Nat):Int) 128=((a.val+128:Nat):Int):=by decide +kernel
 exact this ⟨a,h⟩
theorem Qma (n:Nat) (h:n≤268435455):Tot (fun N=>Vt N (n:Int)) (vb n,0):=by
 refine TotP.tot ?_;unfold Vt Jc;rw [U4,Q01,decide_eq_true (p:=(n:Int)≥0) (by omega),decide_eq_true (by omega)];refine TotP.bindE (v:=true) (.of fun _=>rfl) ?_;refine TotP.cond (fun g=>nomatch g) (fun _=>?_);refine Qce (L:=fun N m (q:Int×List Int)=>X7 N m q.1 q.2) (fun q=>∃ x:Nat,q.1=(x:Int)∧x≤n∧q.2.length+(vb x).length=(vb n).length∧(q.2.map fun n=>UInt8.ofNat n.toNat)++vb x=vb n) (fun q=>q.1.toNat) ?_ ((n:Int),[]) ⟨n,rfl,by omega,by simp,by simp⟩;have hl:=Qna h;have hl4:=Qpg h
 rintro ⟨s,l⟩ ⟨x,h1,h2,h3,h4⟩
 simp only at h1 h2 h3 h4
 subst h1;show Stp _ _ _ (fun N m=>cond (Q4 .geq (x:Int) 128) _ _);dsimp only;rw [U4];refine Stp.cond (fun g=>?_) (fun g=>?_)
 ·have g:128≤x:=by have:=of_decide_eq_true g;omega
  refine Stp.chk (by rw [Mc];omega) ?_
  have e1:wrap .i64 ((x:Int).tdiv 128)=((x / 128:Nat):Int):=by rw [Bj (by omega),w64 _ (by omega)];omega
  have e2:orI .u8 (wrap .u8 ((x:Int).tmod 128)) 128=((x % 128+128:Nat):Int):=by
   rw [Nc (by omega),Qmj,← Qss (Nat.mod_lt x (by decide))]
   congr 1
   omega
  rw [Qie g,Lq] at h3;rw [Qie g] at h4;rw [e1,e2];refine Stp.go (L:=fun N m (q:Int×List Int)=>X7 N m q.1 q.2) (_,_) ⟨⟨x / 128,rfl,by omega,?_,?_⟩,by simp only [Mz];omega⟩
  ·simp only [Lh,Mu];omega
  rw [Ca,Br];exact h4
 have g:x<128:=by have:=of_decide_eq_false g;omega
 refine Stp.chk (by rw [Mc];omega) (Stp.ret ?_);rw [Qe8 g] at h4;rw [Ca,← h4,Qmj,show (x:Int) % 256=x by omega];rfl
end
end Go.Av
namespace Go.Av
noncomputable section
def Qd4 (v:Int) (d r:Bool) (q i:Int) (t pl:List UInt8):List UInt8:=UInt8.ofNat (48+(flg d r q).toNat)::(vb (Q3k v q i t pl).length++Q3k v q i t pl)
theorem Qkk (n:Nat) (h:n≤268435455):TotP (fun N=>G4 N (n:Int)) (fun v=>1≤v):=by
 unfold G4 Jc;rw [U4,Q01,decide_eq_true (p:=(n:Int)≥0) (by omega),decide_eq_true (by omega)];refine TotP.bindE (v:=true) (.of fun _=>rfl) ?_;refine TotP.cond (fun g=>nomatch g) (fun _=>?_);refine Qce (L:=fun N m (q:Int×Int)=>Xt N m q.1 q.2) (fun q=>0≤q.1∧q.1≤268435455∧1≤q.2∧q.2+q.1≤268435456) (fun q=>q.1.toNat) ?_ ((n:Int),1) ⟨by omega,by omega,by omega,by omega⟩
 rintro ⟨s,l⟩ ⟨h1,h2,h3,h4⟩
 simp only at h1 h2 h3 h4
 show Stp _ _ _ (fun N m=>cond (Q4 .geq s 128) _ _);rw [U4];refine Stp.cond (fun g=>?_) (fun _=>Stp.ret h3);have g:=of_decide_eq_true g
 have e1:wrap .i64 (s.tdiv 128)=s / 128:=by rw [Bj (by omega),w64 _ (by omega)]
 rw [e1,w64 _ (by omega)];exact Stp.go (L:=fun N m (q:Int×Int)=>Xt N m q.1 q.2) (_,_) ⟨⟨by simp only;omega,by simp only;omega,by simp only;omega,by simp only;omega⟩,by simp only;omega⟩
section
variable {d r:Bool} {q i:Int} {t pl:List UInt8} (g:GP d q i t pl) {v:Int} (hv:v=4∨v=5)
include g
theorem Qqt:0≤flg d r q∧flg d r q≤15:=by
 have:=g.hq;unfold flg;cases d<;>cases r<;>simp<;>omega
theorem Qqg:wrap .u64 (orI .i64 (Qmk .i64 3 4) (flg d r q))=wrap .u64 (48+flg d r q):=by
 rcases g.hq with rfl | rfl | rfl<;>cases d<;>cases r<;>decide
include hv
theorem Qrj (n:Nat) (hn:n≤268435455):Tot (fun N=>Gw N v ⟨3,flg d r q,(n:Int)⟩) 0:=by
 refine TotP.tot ?_;have hd:=g.dup;unfold Gw;refine TotP.bindE (v:=true) (.of fun _=>by rcases hv with rfl | rfl<;>rfl) ?_;refine TotP.cond (fun h=>nomatch h) (fun _=>?_);refine TotP.bindE (v:=true) (.of fun _=>by rcases hv with rfl | rfl<;>rfl) ?_;refine TotP.cond (fun h=>nomatch h) (fun _=>?_);refine TotP.bindE (v:=true) (.of fun N=>?_) ?_
 ·have e:Vu N 3 (flg d r q)=Vu 0 3 (flg d r q):=rfl;show Vu N 3 (flg d r q)=_;rw [e]
  rcases g.hq with rfl | rfl | rfl<;>cases d<;>cases r<;>first | exact absurd (hd rfl) (by decide) | decide
 refine TotP.cond (fun h=>nomatch h) (fun _=>?_);refine TotP.bind (Qkk n hn) (fun w hw=>?_);rw [Xs];exact TotP.cond (fun h=>absurd (of_decide_eq_true h) (by omega)) (fun _ => .ret rfl)
theorem Qqc (n:Nat) (hn:n≤268435455):Tot (fun N=>Gy N v ⟨3,flg d r q,(n:Int)⟩) (UInt8.ofNat (48+(flg d r q).toNat)::vb n,0):=by
 refine TotP.tot ?_;have hb:=Qqt (r:=r) g;have hl:=Qpg hn;unfold Gy;refine TotP.bindE (Qrj g hv n hn) ?_;refine TotP.cond (fun h=>nomatch h) (fun _=>?_);refine TotP.bindE (Qma n hn) ?_;have hp:=Qlp (48+flg d r q) (by omega) 1 (by omega);rw [← Qqg (r:=r) g] at hp;refine TotP.bindE hp ?_;refine TotP.chk (by rw [Mc,Gn];dsimp only;omega) (.ret ?_);show (Q1t (48+flg d r q).toNat 1++vb n,(0:Int))=_
 have e:(48+flg d r q).toNat=48+(flg d r q).toNat:=by omega
 rw [e];show ([UInt8.ofNat ((48+(flg d r q).toNat) % 256)]++vb n,(0:Int))=_;rw [show (48+(flg d r q).toNat) % 256=48+(flg d r q).toNat by omega];rfl
theorem Qcn:(Q3k v q i t pl).length≤6000:=by
 have:=g.tl;have:=g.hpl;have:=Gn 2;unfold Q3k idB prB
 by_cases h:q=0<;>by_cases h2:v=5<;>simp only [h,h2,if_true,if_false,Lh,this,Lq,Mt]<;>omega
theorem Qpv:Tot (fun N=>Gs N v (ppk d r q i t pl)) (Qd4 v d r q i t pl,0):=by
 refine TotP.tot ?_;have hl:=Qcn g hv;unfold Gs;refine TotP.bindE (Qqx g hv) ?_;refine TotP.cond (fun h=>nomatch h) (fun _=>?_);refine TotP.bindE (.of (Qn9 g hv)) ?_;refine TotP.cond (fun h=>nomatch h) (fun _=>?_);refine TotP.bindE (Qqc (r:=r) g hv (Q3k v q i t pl).length (by omega)) ?_;refine TotP.cond (fun h=>nomatch h) (fun _=>?_);have:=Qpg (n:=(Q3k v q i t pl).length) (by omega);exact TotP.chk (by rw [Mc];simp only [Lq];omega) (.ret rfl)
theorem Qmp:(Qd4 v d r q i t pl).length≤6100:=by
 have hl:=Qcn g hv;have:=Qpg (n:=(Q3k v q i t pl).length) (by omega);unfold Qd4;simp only [Lq,Lh];omega
end
def Qnn (p:Int):Int:=3+p
section
variable {d r:Bool} {q i:Int} {t pl:List UInt8} (g:GP d q i t pl) {p:Int} (hp:p=1∨p=2)
include g hp
theorem Qkm:Qnn p=4∨Qnn p=5:=by unfold Qnn;omega
theorem Qne:Tot (fun N=>Ud N (evP p d r q i t pl)) (evP p d r q i t pl):=⟨20,fun N hN=>by
 obtain ⟨M,rfl⟩:∃ M,N=M+20:=⟨N - 20,by omega⟩
 rfl⟩
theorem Qyb:Tot (fun N=>W4 N (Qnn p) (ppk d r q i t pl)) (evP p d r q i t pl,0):=by
 refine TotP.tot ?_
 have hn:t ≠ []:=fun e=>by have:=g.nm;rw [e] at this;exact absurd this (by decide)
 unfold W4;refine TotP.bindE (v:=(p,true)) (.of fun _=>by rcases hp with rfl | rfl<;>rfl) ?_;refine TotP.cond (fun h=>nomatch h) (fun _=>?_);refine TotP.bindE (Qrr g (Qkm g hp)) ?_;refine TotP.cond (fun h=>nomatch h) (fun _=>?_);refine TotP.cond (fun _=>?_) (fun h=>nomatch h);show TotP (fun N=>cond (G0 .eql t []) _ _) _;rw [Q5v];refine TotP.cond (fun h=>absurd (of_decide_eq_true h) hn) (fun _=>?_);refine TotP.bindE (v:=evP p d r q i t pl) (.of fun _=>rfl) ?_;exact TotP.bindE (Qne g hp) (.ret rfl)
theorem Qq1:Tot (fun N=>U2 N (evP p d r q i t pl)) (Qnn p,ppk d r q i t pl,0):=by
 refine TotP.tot ?_;unfold U2;refine TotP.bindE (v:=(Qnn p,true)) (.of fun _=>by rcases hp with rfl | rfl<;>rfl) ?_;refine TotP.cond (fun h=>nomatch h) (fun _=>?_);refine TotP.bindE (v:=⟨1048576,32⟩) (.of fun _=>rfl) ?_;refine TotP.bindE (Qow g hp) ?_;refine TotP.cond (fun h=>nomatch h) (fun _=>?_);refine TotP.cond (fun _=>?_) (fun h=>nomatch h);refine TotP.bindE (Qne g hp) ?_;exact TotP.bindE (v:=ppk d r q i t pl) (.of fun _=>rfl) (.ret rfl)
theorem Qkv:Tot (fun N=>Wn N (evP p d r q i t pl) ⟨1048576,32⟩) (Qd4 (Qnn p) d r q i t pl,0):=by
 refine TotP.tot ?_;unfold Wn;refine TotP.bindE (v:=true) (.of fun _=>rfl) ?_;refine TotP.cond (fun h=>nomatch h) (fun _=>?_);refine TotP.bindE (Qq1 g hp) ?_;refine TotP.cond (fun h=>nomatch h) (fun _=>?_);refine TotP.bindE (Qpv g (Qkm g hp)) ?_;refine TotP.cond (fun h=>nomatch h) (fun _=>?_);refine TotP.cond (fun h=>?_) (fun _ => .ret rfl);rw [W6] at h;have h:((Qd4 (Qnn p) d r q i t pl).length:Int)>1048576:=of_decide_eq_true h;have:=Qmp (r:=r) g (Qkm g hp);omega
end
end
end Go.Av
namespace Go.Av
noncomputable section
theorem Qg7 (n:Nat) (h:n<16384) (s:List UInt8):Tot (fun N=>Yw N (vb n++s)) ((n:Int),((vb n).length:Int),0):=by
 refine TotP.tot ?_;unfold Yw
 by_cases h1:n<128
 ·have e:(UInt8.ofNat n).toNat=n:=by rw [Nl];omega
  rw [Qe8 h1];refine Qce (L:=fun N m (q:Int×Int×Int)=>Zg N ([UInt8.ofNat n]++s) m q.1 q.2.1 q.2.2) (fun q=>q=(0,1,0)) (fun _=>0) ?_ (0,1,0) rfl
  rintro _ rfl
  refine Stp.cond (fun _=>?_) (fun g=>nomatch g);refine Stp.cond (fun g=>?_) (fun _=>?_)
  ·rw [U4] at g;have:=of_decide_eq_true g;simp only [Lh,Mu] at this;omega
  refine Stp.idx (y:=UInt8.ofNat n) rfl ?_;refine Stp.idx (y:=UInt8.ofNat n) rfl ?_;rw [e];refine Stp.cond (fun _=>?_) (fun g=>?_)
  ·refine Stp.cond (fun g=>nomatch g) (fun _=>Stp.ret ?_);dsimp only;rw [Nc (by omega),show (n:Int) % 128=n by omega,w64 (n:Int) (by omega),Int.mul_one,w64 (n:Int) (by omega),Int.zero_add,w64 (n:Int) (by omega)];rfl
  rw [Qz] at g;exact absurd (of_decide_eq_false g) (by omega)
 have e0:(UInt8.ofNat (n % 128+128)).toNat=n % 128+128:=by rw [Nl];omega
 have e1:(UInt8.ofNat (n / 128)).toNat=n / 128:=by rw [Nl];omega
 rw [Qie (by omega),Qe8 (by omega)];refine Qce (L:=fun N m (q:Int×Int×Int)=>Zg N (UInt8.ofNat (n % 128+128) :: [UInt8.ofNat (n / 128)]++s) m q.1 q.2.1 q.2.2) (fun q=>q=(0,1,0)∨q=(((n % 128:Nat):Int),128,1)) (fun q=>(1 - q.2.2).toNat) ?_ (0,1,0) (.inl rfl)
 rintro _ (rfl | rfl)
 ·refine Stp.cond (fun _=>?_) (fun g=>nomatch g);refine Stp.cond (fun g=>?_) (fun _=>?_)
  ·rw [U4] at g;have:=of_decide_eq_true g;simp only [Lh,Lq] at this;omega
  refine Stp.idx (y:=UInt8.ofNat (n % 128+128)) rfl ?_;refine Stp.idx (y:=UInt8.ofNat (n % 128+128)) rfl ?_;rw [e0];refine Stp.cond (fun g=>?_) (fun _=>?_)
  ·rw [Qz] at g;exact absurd (of_decide_eq_true g) (by omega)
  refine Stp.go (L:=fun N m (q:Int×Int×Int)=>Zg N (UInt8.ofNat (n % 128+128) :: [UInt8.ofNat (n / 128)]++s) m q.1 q.2.1 q.2.2) (_,_,_) ⟨.inr ?_,by simp only;decide⟩
  have e:wrap .i64 (0+wrap .i64 (wrap .i64 (((n % 128+128:Nat):Int).tmod 128) * 1))=((n % 128:Nat):Int):=by
   rw [Nc (by omega),show (((n % 128+128:Nat):Int)) % 128=((n % 128:Nat):Int) by omega,w64 ((n % 128:Nat):Int) (by omega),Int.mul_one,w64 ((n % 128:Nat):Int) (by omega),Int.zero_add,w64 ((n % 128:Nat):Int) (by omega)]
  show (wrap .i64 (0+wrap .i64 (wrap .i64 (((n % 128+128:Nat):Int).tmod 128) * 1)),wrap .i64 (1 * 128),wrap .i64 (0+1))=_;rw [e];rfl
 refine Stp.cond (fun _=>?_) (fun g=>nomatch g);refine Stp.cond (fun g=>?_) (fun _=>?_)
 ·rw [U4] at g;have:=of_decide_eq_true g;simp only [Lh,Lq] at this;omega
 refine Stp.idx (y:=UInt8.ofNat (n / 128)) rfl ?_;refine Stp.idx (y:=UInt8.ofNat (n / 128)) rfl ?_;rw [e1];refine Stp.cond (fun _=>?_) (fun g=>?_)
 ·refine Stp.cond (fun _=>?_) (fun g=>nomatch g);refine Stp.idx (y:=UInt8.ofNat (n / 128)) rfl ?_;rw [e1,Xs];refine Stp.cond (fun g=>absurd (of_decide_eq_true g) (by omega)) (fun _=>Stp.ret ?_);rw [Nc (by omega),show ((n / 128:Nat):Int) % 128=((n / 128:Nat):Int) by omega,w64 ((n / 128:Nat):Int) (by omega),w64 (((n / 128:Nat):Int) * 128) (by omega),w64 (((n % 128:Nat):Int)+((n / 128:Nat):Int) * 128) (by omega),w64 ((1:Int)+1) (by omega)];rw [show ((n % 128:Nat):Int)+((n / 128:Nat):Int) * 128=(n:Int) by omega];rfl
 rw [Qz] at g;exact absurd (of_decide_eq_false g) (by omega)
theorem Qjg (N:Nat) (s:List UInt8) (hl:s.length≤8):∀ (k i:Nat),i≤s.length→s.length - i<k→Zz N s k (Qif (s.take i):Nat) (i:Int)=some ((Qif s:Nat):Int)
 | 0,i,h,h2=>by omega
 | k+1,i,h,h2=>by
  simp only [Zz,Q5j,Qmb]
  by_cases hi:i<s.length
  ·rw [if_pos (by omega),Qa0,Ld hi];simp only [Lg];have h3:=Qob (s.take i);have h4:256 ^ (s.take i).length≤256 ^ 7:=Nat.pow_le_pow_right (by omega) (by rw [Ml];omega);have h5:(256:Nat) ^ 7=72057594037927936:=rfl;rw [Ql8 _ _ (by omega) s[i].toNat_lt,← Ql3 s i hi,Q9q _ (by omega)]
   exact_mod_cast Qjg N s hl k (i+1) (by omega) (by omega)
  rw [if_neg (by omega),Ly (by omega)]
theorem Qgt (s:List UInt8) (hl:s.length≤8):Tot (fun N=>X6 N s) ((Qif s:Nat):Int):=⟨11,fun N hN=>by
 unfold X6
 have e:ifB (decide ((wrap .i64 ((s.length:Int) - 8))>0)) (wrap .i64 ((s.length:Int) - 8)) 0=0:=by
  rw [w64 _ (by omega),decide_eq_false (by omega)];rfl
 rw [e]
 exact Qjg N s hl N 0 (by omega) (by omega)⟩
theorem Qs7 (t s:List UInt8) (ht:t.length≤65535) (hs:s.length≤100000):Tot (fun N=>Yc N (Q1t t.length 2++t++s)) (t,((2+t.length:Nat):Int),0):=by
 refine TotP.tot ?_;have hb:=Gn 2 t.length
 have hlen:(Q1t t.length 2++t++s).length=2+t.length+s.length:=by simp only [Lh,hb]
 unfold Yc;rw [hlen,Qz];refine TotP.cond (fun g=>absurd (of_decide_eq_true g) (by omega)) (fun _=>?_);refine TotP.chk (by simp;omega) ?_
 have e1:((Q1t t.length 2++t++s).take 2).drop 0=Q1t t.length 2:=by
  rw [Br,Mn (by omega),Nh,Ly (by omega)]
 rw [e1];refine TotP.bindE (Qgt _ (by omega)) ?_
 have e2:Qif (Q1t t.length 2)=t.length:=by rw [Qc9];exact Nw (by omega)
 rw [e2,w64 _ (by omega),w64 _ (by omega),W6];refine TotP.cond (fun g=>absurd (of_decide_eq_true g) (by omega)) (fun _=>?_);rw [w64 _ (by omega)];refine TotP.chk (decide_eq_true (by omega)) ?_
 have e3:((2:Int)+(t.length:Int)).toNat=2+t.length:=by omega
 rw [e3];refine TotP.chk (by rw [Lb,Mc,Mc];omega) (.ret ?_)
 have e4:((Q1t t.length 2++t++s).take (2+t.length)).drop 2=t:=by
  rw [Mn (by rw [Lh,hb];omega),Ly (by rw [Lh,hb];omega),Bc (by omega),Mk (by omega)];rfl
 rw [e4];rfl
theorem Qpp (t s:List UInt8) (hv:Q3q t=true) (ht:t.length≤65535) (hs:s.length≤100000):Tot (fun N=>W3 N (Q1t t.length 2++t++s)) (t,((2+t.length:Nat):Int),0):=by
 refine TotP.tot ?_;unfold W3;refine TotP.bindE (Qs7 t s ht hs) ?_;refine TotP.cond (fun g=>nomatch g) (fun _=>?_);have h:=Q7h t;rw [hv] at h;refine TotP.bindE h ?_;exact TotP.cond (fun g=>nomatch g) (fun _ => .ret rfl)
end
end Go.Av
namespace Go.Av
noncomputable section
theorem Qrd (S:List UInt8) (k n:Nat) (h:k+n≤S.length) (hl:S.length≤1000000):Tot (fun N=>Qf N ⟨S,(k:Int),0⟩ (n:Int)) ((S.take (k+n)).drop k,⟨S,((k+n:Nat):Int),0⟩):=by
 refine TotP.tot ?_;unfold Qf;refine TotP.cond (fun _=>?_) (fun g=>nomatch g);rw [Qz];refine TotP.cond (fun g=>absurd (of_decide_eq_true g) (by omega)) (fun _=>?_);dsimp only;rw [w64 _ (by omega),W6];refine TotP.cond (fun g=>absurd (of_decide_eq_true g) (by omega)) (fun _=>?_)
 have hp:TotP (fun N=>Z0 N ⟨S,(k:Int),0⟩ (n:Int)) (· = ((S.take (k+n)).drop k,⟨S,(k:Int),0⟩)):=by
  unfold Z0;refine TotP.cond (fun g=>nomatch g) (fun _=>?_);rw [Qz];refine TotP.cond (fun g=>absurd (of_decide_eq_true g) (by omega)) (fun _=>?_);dsimp only;rw [w64 _ (by omega),w64 _ (by omega),W6];refine TotP.cond (fun g=>absurd (of_decide_eq_true g) (by omega)) (fun _=>?_);refine TotP.chk (decide_eq_true (by omega)) ?_;refine TotP.chk (decide_eq_true (by omega)) ?_;rw [show ((k:Int)+(n:Int)).toNat=k+n by omega,Mz];exact TotP.chk (by rw [Lb,Mc,Mc];omega) (.ret rfl)
 refine TotP.bind hp (fun w hw=>?_);subst hw
 have e:((S.take (k+n)).drop k).length=n:=by rw [Nf,Ml];omega
 dsimp only;rw [e,w64 _ (by omega)];exact .ret (by rw [show (k:Int)+(n:Int)=((k+n:Nat):Int) by omega])
theorem Qsn (S:List UInt8) (k:Nat) (h:k≤S.length) (hl:S.length≤1000000) (N:Nat):Qg N ⟨S,(k:Int),0⟩=some (((S.length - k:Nat):Int),⟨S,(k:Int),0⟩):=by
 unfold Qg;dsimp only;rw [w64 _ (by omega),show ((S.length:Int) - (k:Int))=((S.length - k:Nat):Int) by omega]
theorem Qs2 (S:List UInt8) (k:Nat) (h:k≤S.length) (N:Nat):Z7 N ⟨S,(k:Int),0⟩=some (S.drop k,⟨S,(k:Int),0⟩):=by
 unfold Z7;dsimp only;rw [decide_eq_true (by omega),Mz,show (Nat.ble k S.length&&Nat.ble S.length S.length)=true by rw [Lb,Mc,Mc];omega,Ly (Lm _)];rfl
theorem Zb3 (S:List UInt8) (k m:Nat) (h:k+2≤S.length) (hl:S.length≤1000000) (hm:m<65536) (e:(S.take (k+2)).drop k=Q1t m 2):Tot (fun N=>Zv N ⟨S,(k:Int),0⟩ 2) ((m:Int),⟨S,((k+2:Nat):Int),0⟩):=by
 refine TotP.tot ?_;unfold Zv;refine TotP.bindE (Qrd S k 2 h hl) ?_;dsimp only;rw [e];refine TotP.bindE (Qgt _ (by rw [Gn];omega)) (.ret ?_);rw [Qc9,Nw (by omega)]
def zpk:Q5:=⟨0,false,false,0,0,[],[],false,0,[],false,[],false,[],false,(⟨[],[],0,false,[]⟩:W7),false,0,[],[],[]⟩
theorem Qr1 (mk:List UInt8→Q5) (v:Int) (S:List UInt8) (k:Nat) (h:k≤S.length) (hl:S.length≤1000000) (hv:Tot (fun N=>Qi N v (mk (S.drop k))) 0) :
  TotP (fun N=>(Qg N ⟨S,(k:Int),0⟩).bind fun v16=>(Qf N v16.2 v16.1).bind fun v18=>(Qi N v (mk v18.1)).bind fun v20=>
   (Qo N v18.2 v20).bind fun v22=>cond (Q4 .neq v22.2.E 0) (some (zpk,v22.2.E)) (some (mk v18.1,0))) (· = (mk (S.drop k),0)):=by
 refine TotP.bindE (.of (Qsn S k h hl)) ?_;refine TotP.bindE (Qrd S k (S.length - k) (by omega) hl) ?_
 have e:(S.take (k+(S.length - k))).drop k=S.drop k:=by rw [Ly (by omega)]
 dsimp only;rw [e];refine TotP.bindE hv ?_;refine TotP.bindE (v:=((),⟨S,((k+(S.length - k):Nat):Int),0⟩)) (.of fun _=>rfl) ?_;exact TotP.cond (fun g=>nomatch g) (fun _ => .ret rfl)
section
variable {d r:Bool} {q i:Int} {t pl:List UInt8} (g:GP d q i t pl) {v:Int} (hv:v=4∨v=5)
include g
theorem GP.val:Q3q t=true:=by have:=g.nm;unfold Qed at this;simp only [Lb] at this;exact this.1.2
include hv
theorem Qpo (N:Nat):Y6 N v (ppk d r q i t pl)=some (flg d r q,0):=by
 have hd:=g.dup;have e:Y6 N v (ppk d r q i t pl)=Y6 0 v (ppk d r q 0 [] []):=rfl;rw [e]
 rcases hv with rfl | rfl<;>rcases g.hq with rfl | rfl | rfl<;>cases d<;>cases r<;>first | exact absurd (hd rfl) (by decide) | decide
theorem Qqr:Tot (fun N=>Q6 N v 3 []) 0:=by
 refine TotP.tot ?_;unfold Q6;refine TotP.cond (fun _=>TotP.cond (fun h=>nomatch h) (fun _ => .ret rfl)) (fun _=>?_);refine TotP.bindE (v:=0) ⟨9,fun N hN=>?_⟩ (.ret rfl);obtain ⟨M,rfl⟩:∃ M,N=M+9:=⟨N - 9,by omega⟩;rfl
theorem Qqw:TotP (fun N=>(Ql N (ppk d r q i t pl)).bind fun v18=>(Qm N t).bind fun v20=>cond (!v20) (cond (G0 .eql t []) (cond v18.2 (cond (!(Q4 .eql v 5)) (some (10:Int)) ((Q6 N v 3 []).bind fun v26=>some v26)) (some 10)) (some 10)) ((Q6 N v 3 []).bind fun v28=>some v28)) (· = 0):=by
 refine TotP.bindE (v:=(0,false)) ⟨9,fun N hN=>?_⟩ ?_
 ·obtain ⟨M,rfl⟩:∃ M,N=M+9:=⟨N - 9,by omega⟩;rfl
 have hn:=Qev t (by have:=g.tl;have:=ml2;omega);rw [g.nm] at hn;refine TotP.bindE hn ?_;refine TotP.cond (fun h=>nomatch h) (fun _=>?_);exact TotP.bindE (Qqr g hv) (.ret rfl)
theorem Qjd:Tot (fun N=>Qi N v (ppk d r q i t pl)) 0:=by
 refine TotP.tot ?_;have hn:=Qqw (r:=r) g hv;unfold Qi;refine TotP.bindE (v:=true) (.of fun _=>by rcases hv with rfl | rfl<;>rfl) ?_;refine TotP.cond (fun h=>nomatch h) (fun _=>?_);refine TotP.cond (fun h=>nomatch h) (fun _=>?_);refine TotP.bindE (.of (Qpo g hv)) ?_;refine TotP.cond (fun h=>nomatch h) (fun _=>?_);refine TotP.bind (Q8p (ppk d r q i t pl) ⟨Md _,Md _,Md _,Md _⟩) (fun b hb=>?_);subst hb;refine TotP.cond (fun h=>nomatch h) (fun _=>?_)
 have k4:TotP (fun N=>cond (Q4 .eql v 4) (cond (Q4 .gtr ((Qc Qj.cells []).length:Int) 0) (some (2:Int)) ((Ql N (ppk d r q i t pl)).bind fun v18=>(Qm N t).bind fun v20=>cond (!v20) (cond (G0 .eql t []) (cond v18.2 (cond (!(Q4 .eql v 5)) (some (10:Int)) ((Q6 N v 3 []).bind fun v26=>some v26)) (some 10)) (some 10)) ((Q6 N v 3 []).bind fun v28=>some v28)))
   ((Ql N (ppk d r q i t pl)).bind fun v18=>(Qm N t).bind fun v20=>cond (!v20) (cond (G0 .eql t []) (cond v18.2 (cond (!(Q4 .eql v 5)) (some (10:Int)) ((Q6 N v 3 []).bind fun v26=>some v26)) (some 10)) (some 10)) ((Q6 N v 3 []).bind fun v28=>some v28))) (· = 0):=
  TotP.cond (fun _=>TotP.cond (fun h=>nomatch h) (fun _=>hn)) (fun _=>hn)
 show TotP (fun N=>cond (Q4 .eql q 0) (cond (Q4 .neq i 0) (some 2) (cond (Q4 .gtr q 0) (cond (Q4 .lss i 1) (some 2) (cond (Q4 .gtr i 65535) (some 2) _)) _)) (cond (Q4 .gtr q 0) (cond (Q4 .lss i 1) (some 2) (cond (Q4 .gtr i 65535) (some 2) _)) _)) _;rw [Xs,Wd,W6,Qz,W6];have hr:=GP.qR g;refine TotP.cond (fun h=>?_) (fun h=>?_)
 ·have h:=of_decide_eq_true h;refine TotP.cond (fun h2=>absurd (g.id0 h) (of_decide_eq_true h2)) (fun _=>?_);exact TotP.cond (fun h2=>absurd (of_decide_eq_true h2) (by omega)) (fun _=>k4)
 have h:=of_decide_eq_false h;have hi:=g.id1 h;refine TotP.cond (fun _=>?_) (fun h2=>absurd (of_decide_eq_false h2) (by omega));refine TotP.cond (fun h2=>absurd (of_decide_eq_true h2) (by omega)) (fun _=>?_);exact TotP.cond (fun h2=>absurd (of_decide_eq_true h2) (by omega)) (fun _=>k4)
end
end
end Go.Av
namespace Go.Av
noncomputable section
structure Qxa (a:Zo):Prop where
 props:a.Props.length≤maxLen
 hops:a.Hops.length≤maxLen
 pk:Qrx a.Packet
 fr:Q3.szs a.Frame.Values<700000000
structure PubT (e:Zo) (c t b:Bool):Prop where
 known:e.Proto=1∨e.Proto=2∨e.Proto=3∨e.Proto=4
 kind:e.Kind=1
 qos:(0≤e.QoS∧e.QoS≤2)∨(e.Proto=3∧e.QoS = -1)
 id:0≤e.ID∧e.ID≤65535
 cid:c=decide (e.ID≠0)
 dup:e.Dup=true→c=true∨e.Proto=3
 props:0<e.Props.length→e.Proto=2
 ty:e.Proto=3→t=true
 ty2:e.Proto≠3→e.Type'=0∧e.Hops.length=0
 ch:0≤e.Channel∧e.Channel≤65535
 ch4:e.Channel≠0→e.Proto=4
 bare:b=true
section
end
end
end Go.Av
namespace Go.Av
noncomputable section
theorem Q3u (a b:List Qj) (ha:a.length≤maxLen):TotP (fun N=>Zy N a b) (fun v=>v=true↔a=b):=by
 unfold Zy;rw [Qa,Qa,Wd];refine TotP.cond (fun h => .ret ⟨fun h=>(by cases h),fun e=>?_⟩) (fun h=>?_)
 ·have:=of_decide_eq_true h;subst e;exact absurd rfl this
 have h:=of_decide_eq_false h
 have hab:a.length=b.length:=by omega
 refine Qab (L:=fun N n i=>Zk N a b n i) (eq:=fun x y=>((x.ID:Int) == y.ID)&&(((x.N':Int) == y.N')&&(((x.Text:List UInt8) == y.Text)&&(((x.Value:List UInt8) == y.Value)&&true)))) (fun _ _=>Qro) hab ha (fun N n i h h'=>?_) (fun N n=>?_)
 ·show cond (Q4 .lss (i:Int) ((Qc Qj.cells a).length:Int)) ((idx a (i:Int)).bind _) _=_;rw [Qa,Qz,decide_eq_true (by omega),Yq h,Yq h'];rfl
 show cond (Q4 .lss (a.length:Int) ((Qc Qj.cells a).length:Int)) _ _=_;rw [Qa,Qz,decide_eq_false (by omega)];rfl
theorem Qfn (a b:List Q3e) (ha:a.length≤maxLen):TotP (fun N=>Xx N a b) (fun v=>v=true↔a=b):=by
 unfold Xx;rw [Qa,Qa,Wd];refine TotP.cond (fun h => .ret ⟨fun h=>(by cases h),fun e=>?_⟩) (fun h=>?_)
 ·have:=of_decide_eq_true h;subst e;exact absurd rfl this
 have h:=of_decide_eq_false h
 have hab:a.length=b.length:=by omega
 refine Qab (L:=fun N n i=>Ya N a b n i) (eq:=fun x y=>((x.Radius:Int) == y.Radius)&&(((x.Node:List UInt8) == y.Node)&&true)) (fun _ _=>Zbt) hab ha (fun N n i h h'=>?_) (fun N n=>?_)
 ·show cond (Q4 .lss (i:Int) ((Qc Q3e.cells a).length:Int)) ((idx a (i:Int)).bind _) _=_;rw [Qa,Qz,decide_eq_true (by omega),Yq h,Yq h'];rfl
 show cond (Q4 .lss (a.length:Int) ((Qc Q3e.cells a).length:Int)) _ _=_;rw [Qa,Qz,decide_eq_false (by omega)];rfl
theorem Qas (a b:List Qn) (ha:a.length≤maxLen):TotP (fun N=>Yb N a b) (fun v=>v=true↔a=b):=by
 unfold Yb;rw [Qa,Qa,Wd];refine TotP.cond (fun h => .ret ⟨fun h=>(by cases h),fun e=>?_⟩) (fun h=>?_)
 ·have:=of_decide_eq_true h;subst e;exact absurd rfl this
 have h:=of_decide_eq_false h
 have hab:a.length=b.length:=by omega
 refine Qab (L:=fun N n i=>Z2 N a b n i) (eq:=fun x y=>((x.Topic:List UInt8) == y.Topic)&&(((x.QoS:Int) == y.QoS)&&(((x.NoLocal:Bool) == y.NoLocal)&&(((x.AsPublished:Bool) == y.AsPublished)&&(((x.Handling:Int) == y.Handling)&&true))))) (fun _ _=>Qjl) hab ha (fun N n i h h'=>?_) (fun N n=>?_)
 ·show cond (Q4 .lss (i:Int) ((Qc Qn.cells a).length:Int)) ((idx a (i:Int)).bind _) _=_;rw [Qa,Qz,decide_eq_true (by omega),Yq h,Yq h'];rfl
 show cond (Q4 .lss (a.length:Int) ((Qc Qn.cells a).length:Int)) _ _=_;rw [Qa,Qz,decide_eq_false (by omega)];rfl
theorem Qfg (a b:List Int) (ha:a.length≤maxLen):TotP (fun N=>Yu N a b) (fun v=>v=true↔a=b):=by
 unfold Yu;rw [Qa,Qa,Wd];refine TotP.cond (fun h => .ret ⟨fun h=>(by cases h),fun e=>?_⟩) (fun h=>?_)
 ·have:=of_decide_eq_true h;subst e;exact absurd rfl this
 have h:=of_decide_eq_false h
 have hab:a.length=b.length:=by omega
 refine Qab (L:=fun N n i=>Zh N a b n i) (eq:=fun x y=>Q4 .eql x y) (fun x y=>by rw [Xs];exact decide_eq_true_iff) hab ha (fun N n i h h'=>?_) (fun N n=>?_)
 ·show cond (Q4 .lss (i:Int) ((Qc (cI .i64) a).length:Int)) ((idx a (i:Int)).bind _) _=_;rw [Qa,Qz,decide_eq_true (by omega),Yq h,Yq h'];simp only [Lg,cond_true,Wd,Xs,decide_not]
 show cond (Q4 .lss (a.length:Int) ((Qc (cI .i64) a).length:Int)) _ _=_;rw [Qa,Qz,decide_eq_false (by omega)];rfl
theorem Q7m (a b:Q5) (h:Qrx a):TotP (fun N=>Ze N a b) (fun v=>v=true↔a=b):=by
 unfold Ze;simp only [Wd,Qh7];refine TotP.cond (fun g => .ret ⟨fun e=>absurd e Ll,fun e=>absurd g (by rw [e];simp)⟩) (fun g=>?_)
 have e0:a.Will.Topic=b.Will.Topic:=by simpa using g
 clear g;refine TotP.cond (fun g => .ret ⟨fun e=>absurd e Ll,fun e=>absurd g (by rw [e];simp)⟩) (fun g=>?_)
 have e1:a.Will.Payload=b.Will.Payload:=by simpa using g
 clear g;refine TotP.cond (fun g => .ret ⟨fun e=>absurd e Ll,fun e=>absurd g (by rw [e];simp)⟩) (fun g=>?_)
 have e2:a.Will.QoS=b.Will.QoS:=by simpa using g
 clear g;refine TotP.cond (fun g => .ret ⟨fun e=>absurd e Ll,fun e=>absurd g (by rw [e];simp)⟩) (fun g=>?_)
 have e3:a.Will.Retain=b.Will.Retain:=by simpa using g
 clear g;refine TotP.bind (Q3u _ _ h.wprops) (fun v hv=>?_);refine TotP.cond (fun g => .ret ⟨fun e=>absurd e Ll,fun e=>absurd (hv.2 (by rw [e])) (by simpa using g)⟩) (fun g=>?_);have e4:a.Will.Props=b.Will.Props:=hv.1 (by simpa using g);clear g hv;refine TotP.cond (fun g => .ret ⟨fun e=>absurd e Ll,fun e=>absurd g (by rw [e];simp)⟩) (fun g=>?_)
 have e5:a.Kind=b.Kind:=by simpa using g
 clear g;refine TotP.cond (fun g => .ret ⟨fun e=>absurd e Ll,fun e=>absurd g (by rw [e];simp)⟩) (fun g=>?_)
 have e6:a.Dup=b.Dup:=by simpa using g
 clear g;refine TotP.cond (fun g => .ret ⟨fun e=>absurd e Ll,fun e=>absurd g (by rw [e];simp)⟩) (fun g=>?_)
 have e7:a.Retain=b.Retain:=by simpa using g
 clear g;refine TotP.cond (fun g => .ret ⟨fun e=>absurd e Ll,fun e=>absurd g (by rw [e];simp)⟩) (fun g=>?_)
 have e8:a.QoS=b.QoS:=by simpa using g
 clear g;refine TotP.cond (fun g => .ret ⟨fun e=>absurd e Ll,fun e=>absurd g (by rw [e];simp)⟩) (fun g=>?_)
 have e9:a.ID=b.ID:=by simpa using g
 clear g;refine TotP.cond (fun g => .ret ⟨fun e=>absurd e Ll,fun e=>absurd g (by rw [e];simp)⟩) (fun g=>?_)
 have e10:a.Topic=b.Topic:=by simpa using g
 clear g;refine TotP.cond (fun g => .ret ⟨fun e=>absurd e Ll,fun e=>absurd g (by rw [e];simp)⟩) (fun g=>?_)
 have e11:a.Payload=b.Payload:=by simpa using g
 clear g;refine TotP.cond (fun g => .ret ⟨fun e=>absurd e Ll,fun e=>absurd g (by rw [e];simp)⟩) (fun g=>?_)
 have e12:a.Clean=b.Clean:=by simpa using g
 clear g;refine TotP.cond (fun g => .ret ⟨fun e=>absurd e Ll,fun e=>absurd g (by rw [e];simp)⟩) (fun g=>?_)
 have e13:a.KeepAlive=b.KeepAlive:=by simpa using g
 clear g;refine TotP.cond (fun g => .ret ⟨fun e=>absurd e Ll,fun e=>absurd g (by rw [e];simp)⟩) (fun g=>?_)
 have e14:a.Client=b.Client:=by simpa using g
 clear g;refine TotP.cond (fun g => .ret ⟨fun e=>absurd e Ll,fun e=>absurd g (by rw [e];simp)⟩) (fun g=>?_)
 have e15:a.HasUser=b.HasUser:=by simpa using g
 clear g;refine TotP.cond (fun g => .ret ⟨fun e=>absurd e Ll,fun e=>absurd g (by rw [e];simp)⟩) (fun g=>?_)
 have e16:a.User=b.User:=by simpa using g
 clear g;refine TotP.cond (fun g => .ret ⟨fun e=>absurd e Ll,fun e=>absurd g (by rw [e];simp)⟩) (fun g=>?_)
 have e17:a.HasPass=b.HasPass:=by simpa using g
 clear g;refine TotP.cond (fun g => .ret ⟨fun e=>absurd e Ll,fun e=>absurd g (by rw [e];simp)⟩) (fun g=>?_)
 have e18:a.Pass=b.Pass:=by simpa using g
 clear g;refine TotP.cond (fun g => .ret ⟨fun e=>absurd e Ll,fun e=>absurd g (by rw [e];simp)⟩) (fun g=>?_)
 have e19:a.HasWill=b.HasWill:=by simpa using g
 clear g;refine TotP.cond (fun g => .ret ⟨fun e=>absurd e Ll,fun e=>absurd g (by rw [e];simp)⟩) (fun g=>?_)
 have e20:a.Session=b.Session:=by simpa using g
 clear g;refine TotP.cond (fun g => .ret ⟨fun e=>absurd e Ll,fun e=>absurd g (by rw [e];simp)⟩) (fun g=>?_)
 have e21:a.Code=b.Code:=by simpa using g
 clear g;refine TotP.bind (Qfg _ _ h.codes) (fun v hv=>?_);refine TotP.cond (fun g=>?_) (fun g => .ret ⟨fun e=>absurd e Ll,fun e=>absurd (hv.2 (by rw [e])) (by rw [g];decide)⟩);have e22:a.Codes=b.Codes:=hv.1 g;clear g hv;refine TotP.bind (Qas _ _ h.filters) (fun v hv=>?_);refine TotP.cond (fun g=>?_) (fun g => .ret ⟨fun e=>absurd e Ll,fun e=>absurd (hv.2 (by rw [e])) (by rw [g];decide)⟩);have e23:a.Filters=b.Filters:=hv.1 g;clear g hv;refine TotP.bind (Q3u _ _ h.props) (fun v hv => .ret ⟨fun g=>?_,fun e=>hv.2 (by rw [e])⟩);have el:a.Props=b.Props:=hv.1 g;obtain ⟨a0,a1,a2,a3,a4,a5,a6,a7,a8,a9,a10,a11,a12,a13,a14,⟨w0,w1,w2,w3,w4⟩,a16,a17,a18,a19,a20⟩:=a;obtain ⟨b0,b1,b2,b3,b4,b5,b6,b7,b8,b9,b10,b11,b12,b13,b14,⟨x0,x1,x2,x3,x4⟩,b16,b17,b18,b19,b20⟩:=b
 simp_all
theorem Qr7 (x y:Qey):(((x.Type':Int) == y.Type')&&(((x.Flags.Dup:Bool) == y.Flags.Dup)&&(((x.Flags.QoS:Int) == y.Flags.QoS)&&(((x.Flags.Retain:Bool) == y.Flags.Retain)&&(((x.Flags.Will:Bool) == y.Flags.Will)&&(((x.Flags.Clean:Bool) == y.Flags.Clean)&&(((x.Flags.Type':Int) == y.Flags.Type')&&(((x.Gateway:Int) == y.Gateway)&&(((x.Radius:Int) == y.Radius)&&(((x.Time:Int) == y.Time)&&(((x.Timed:Bool) == y.Timed)&&(((x.TopicID:Int) == y.TopicID)&&(((x.MsgID:Int) == y.MsgID)&&(((x.Code:Int) == y.Code)&&(((x.Name:List UInt8) == y.Name)&&(((x.Data:List UInt8) == y.Data)&&true))))))))))))))))=true↔x=y:=by
 obtain ⟨a,⟨b,c,d,e,f,g⟩,h,i,j,k,l,m,n,o,p⟩:=x;obtain ⟨a',⟨b',c',d',e',f',g'⟩,h',i',j',k',l',m',n',o',p'⟩:=y;simp [and_assoc]
theorem Qcg (a b:Zo) (h:Qxa a):TotP (fun N=>Xw N a b) (fun v=>v=true↔a=b):=by
 unfold Xw;simp only [Xs,Q5v];refine TotP.cond (fun g=>?_) (fun g => .ret ⟨fun e=>absurd e Ll,fun e=>absurd g (by rw [e];simp)⟩)
 have e24:a.Proto=b.Proto:=by simpa using g
 clear g;refine TotP.cond (fun g=>?_) (fun g => .ret ⟨fun e=>absurd e Ll,fun e=>absurd g (by rw [e];simp)⟩)
 have e25:a.Kind=b.Kind:=by simpa using g
 clear g;refine TotP.cond (fun g=>?_) (fun g => .ret ⟨fun e=>absurd e Ll,fun e=>absurd g (by rw [e];simp)⟩)
 have e26:a.Topic=b.Topic:=by simpa using g
 clear g;refine TotP.cond (fun g=>?_) (fun g => .ret ⟨fun e=>absurd e Ll,fun e=>absurd g (by rw [e];simp)⟩)
 have e27:a.Payload=b.Payload:=by simpa using g
 clear g;refine TotP.cond (fun g=>?_) (fun g => .ret ⟨fun e=>absurd e Ll,fun e=>absurd g (by rw [e];simp)⟩)
 have e28:a.QoS=b.QoS:=by simpa using g
 clear g;refine TotP.cond (fun g=>?_) (fun g => .ret ⟨fun e=>absurd e Ll,fun e=>absurd g (by rw [e];simp)⟩)
 have e29:a.Retain=b.Retain:=by simpa using g
 clear g;refine TotP.cond (fun g=>?_) (fun g => .ret ⟨fun e=>absurd e Ll,fun e=>absurd g (by rw [e];simp)⟩)
 have e30:a.Dup=b.Dup:=by simpa using g
 clear g;refine TotP.cond (fun g=>?_) (fun g => .ret ⟨fun e=>absurd e Ll,fun e=>absurd g (by rw [e];simp)⟩)
 have e31:a.ID=b.ID:=by simpa using g
 clear g;refine TotP.bind (Q3u _ _ h.props) (fun v hv=>?_);refine TotP.cond (fun g=>?_) (fun g => .ret ⟨fun e=>absurd e Ll,fun e=>absurd (hv.2 (by rw [e])) (by rw [g];decide)⟩);have e32:a.Props=b.Props:=hv.1 g;clear g hv;refine TotP.cond (fun g=>?_) (fun g => .ret ⟨fun e=>absurd e Ll,fun e=>absurd g (by rw [e];simp)⟩)
 have e33:a.Type'=b.Type':=by simpa using g
 clear g;refine TotP.bind (Qfn _ _ h.hops) (fun v hv=>?_);refine TotP.cond (fun g=>?_) (fun g => .ret ⟨fun e=>absurd e Ll,fun e=>absurd (hv.2 (by rw [e])) (by rw [g];decide)⟩);have e34:a.Hops=b.Hops:=hv.1 g;clear g hv;refine TotP.cond (fun g=>?_) (fun g => .ret ⟨fun e=>absurd e Ll,fun e=>absurd g (by rw [e];simp)⟩)
 have e35:a.Channel=b.Channel:=by simpa using g
 clear g;refine TotP.bind (Q7m _ _ h.pk) (fun v hv=>?_);refine TotP.cond (fun g=>?_) (fun g => .ret ⟨fun e=>absurd e Ll,fun e=>absurd (hv.2 (by rw [e])) (by rw [g];decide)⟩);have e36:a.Packet=b.Packet:=hv.1 g;clear g hv;refine TotP.cond (fun g=>?_) (fun g => .ret ⟨fun e=>absurd e Ll,fun e=>absurd ((Qr7 a.Msg b.Msg).2 (by rw [e])) (by rw [g];decide)⟩);have e37:a.Msg=b.Msg:=(Qr7 _ _).1 g;clear g;refine TotP.bind (V:=fun v=>v=true↔a.Frame=b.Frame) ⟨decide (a.Frame=b.Frame),decide_eq_true_iff,800000000,fun N hN=>Qe3 hN _ _ h.fr⟩ (fun v hv => .ret ⟨fun g=>?_,fun e=>hv.2 (by rw [e])⟩);have el:a.Frame=b.Frame:=hv.1 g;cases a;cases b
 simp_all
end
end Go.Av
namespace Go.Av
noncomputable section
theorem Qpn (pl:List UInt8) (h:pl.length≤2000):Tot (fun N=>Zx N 3 ([0]++pl)) ([],1,0):=by
 refine TotP.tot ?_;have h0:=Qg7 0 (by omega) pl;rw [Qe8 (by omega)] at h0
 have hl:(([0]:List UInt8)++pl).length=1+pl.length:=by simp only [Lh,Mu]
 unfold Zx;refine TotP.bindE (v:=(0,1,0)) h0 ?_;refine TotP.cond (fun g=>nomatch g) (fun _=>?_);rw [hl];dsimp only;rw [w64 _ (by omega),W6];refine TotP.cond (fun g=>absurd (of_decide_eq_true g) (by omega)) (fun _=>?_);refine TotP.chk rfl ?_;refine TotP.chk rfl ?_;refine TotP.chk (by show (Nat.ble 1 1&&Nat.ble 1 (1+pl.length))=true;rw [Lb,Mc,Mc];omega) ?_;refine ⟨_,rfl,40,fun N hN=>?_⟩;obtain ⟨M,rfl⟩:∃ M,N=M+40:=⟨N - 40,by omega⟩;rfl
section
variable {d r:Bool} {q i:Int} {t pl:List UInt8} (g:GP d q i t pl) {v:Int} (hv:v=4∨v=5)
include g
theorem Qsd:Q4 .geq (flg d r q) 8=d:=by rcases g.hq with rfl | rfl | rfl<;>cases d<;>cases r<;>decide
theorem Qs6:Q4 .eql ((flg d r q).tmod 2) 1=r:=by rcases g.hq with rfl | rfl | rfl<;>cases d<;>cases r<;>decide
theorem Qsq:(wrap .i64 ((flg d r q).tdiv 2)).tmod 4=q:=by rcases g.hq with rfl | rfl | rfl<;>cases d<;>cases r<;>decide
include hv
theorem Qn8:Tot (fun N=>Y8 N v ⟨3,flg d r q,0⟩) 0:=by
 have hd:=g.dup;refine .of fun N=>?_;have e:Y8 N v ⟨3,flg d r q,0⟩=Y8 0 v ⟨3,flg d r q,0⟩:=rfl;rw [e]
 rcases hv with rfl | rfl<;>rcases g.hq with rfl | rfl | rfl<;>cases d<;>cases r<;>first | exact absurd (hd rfl) (by decide) | decide
theorem Qr0 (S:List UInt8) (k:Nat) (h:k≤S.length) (hl:S.length≤100000) (e:S.drop k=prB v++pl) (i':Int) (hi:i'=i) :
  TotP (fun N=>cond (Q4 .eql v 4) ((Qg N ⟨S,(k:Int),0⟩).bind fun v16=>(Qf N v16.2 v16.1).bind fun v18=>(Qi N v (ppk d r q i' t v18.1)).bind fun v20=>
   (Qo N v18.2 v20).bind fun v22=>cond (Q4 .neq v22.2.E 0) (some (zpk,v22.2.E)) (some (ppk d r q i' t v18.1,0)))
   ((Z7 N ⟨S,(k:Int),0⟩).bind fun v35=>(Zx N 3 v35.1).bind fun v37=>(Qg N ⟨v35.2.S,wrap .i64 (v35.2.I+v37.2.1),v37.2.2⟩).bind fun v39=>(Qf N v39.2 v39.1).bind fun v41=>
   (Qi N v (⟨3,d,r,q,i',t,v41.1,false,0,[],false,[],false,[],false,(⟨[],[],0,false,[]⟩:W7),false,0,[],[],v37.1⟩:Q5)).bind fun v43=>(Qo N v41.2 v43).bind fun v45=>cond (Q4 .neq v45.2.E 0) (some (zpk,v45.2.E)) (some ((⟨3,d,r,q,i',t,v41.1,false,0,[],false,[],false,[],false,(⟨[],[],0,false,[]⟩:W7),false,0,[],[],v37.1⟩:Q5),0)))) (· = (ppk d r q i t pl,0)):=by
 subst hi;have hval:=Qjd (r:=r) g hv;rw [Xs];refine TotP.cond (fun g4=>?_) (fun g4=>?_)
 ·have g4:=of_decide_eq_true g4;subst g4;have e:S.drop k=pl:=e;have:=Qr1 (fun x=>ppk d r q i' t x) 4 S k h (by omega) (by rw [e];exact hval);rw [e] at this;exact this
 have g4:=of_decide_eq_false g4
 obtain rfl:v=5:=by omega
 have e:S.drop k = [0]++pl:=e;refine TotP.bindE (.of (Qs2 S k h)) ?_
 have hd:(S.drop k).length=1+pl.length:=by rw [e];simp only [Lh,Mu]
 rw [Nf] at hd;show TotP (fun N=>(Zx N 3 (S.drop k)).bind _) _;rw [e];refine TotP.bindE (Qpn pl g.hpl) ?_;show TotP (fun N=>(Qg N ⟨S,wrap .i64 ((k:Int)+1),0⟩).bind _) _;rw [w64 ((k:Int)+1) (by omega),show (k:Int)+1=((k+1:Nat):Int) by omega]
 have e1:S.drop (k+1)=pl:=by rw [← Mx,e];rfl
 have:=Qr1 (fun x=>ppk d r q i' t x) 5 S (k+1) (by omega) (by omega) (by rw [e1];exact hval);rw [e1] at this;exact this
theorem Qqz:Tot (fun N=>W2 N v (flg d r q) (Q3k v q i t pl)) (ppk d r q i t pl,0):=by
 refine TotP.tot ?_;have h1:=g.tl;have h2:=g.hpl;have hb:=Gn 2
 have hp1:(prB v++pl).length≤2001:=by rw [Lh];unfold prB;split<;>simp<;>omega
 have hi2:(idB q i).length≤2:=by unfold idB;split<;>simp [hb]
 have eb:Q3k v q i t pl=Q1t t.length 2++t++(idB q i++(prB v++pl)):=by unfold Q3k;simp only [Br]
 rw [eb];unfold W2;refine TotP.bindE (v:=true) (.of fun _=>by rcases hv with rfl | rfl<;>rfl) ?_;refine TotP.cond (fun h=>nomatch h) (fun _=>?_);refine TotP.bindE (Qn8 g hv) ?_;refine TotP.cond (fun h=>nomatch h) (fun _=>?_);refine TotP.bindE (Qpp t (idB q i++(prB v++pl)) (GP.val g) (by omega) (by rw [Lh];omega)) ?_;refine TotP.cond (fun h=>nomatch h) (fun _=>?_)
 have hl:(Q1t t.length 2++t++(idB q i++(prB v++pl))).length=2+t.length+(idB q i++(prB v++pl)).length:=by rw [Lh,Lh,hb]
 have hr1:(idB q i++(prB v++pl)).length≤2003:=by rw [Lh];omega
 have ed:((Q1t t.length 2++t++(idB q i++(prB v++pl))).take (Q1t t.length 2++t++(idB q i++(prB v++pl))).length).drop (2+t.length)=idB q i++(prB v++pl):=by
  rw [Ly (Lm _)];exact Cr (by rw [Lh,hb])
 dsimp only;rw [Mz,ed];refine TotP.chk (decide_eq_true (by omega)) ?_;refine TotP.chk (by rw [Lb,Mc,Mc,hl];omega) ?_;rw [Qsd g,Qs6 g,Qsq g,W6];have hq:=GP.qR g;generalize hS:idB q i++(prB v++pl)=S at hl hr1 ed ⊢;refine TotP.cond (fun h=>?_) (fun h=>?_)
 ·have h:q≠0:=by have:=of_decide_eq_true h;omega
  have hid:=g.id1 h
  have hS2:S=Q1t i.toNat 2++(prB v++pl):=by rw [← hS];unfold idB;rw [if_neg h]
  refine TotP.bindE (Zb3 S 0 i.toNat (by rw [hS2,Lh,hb];omega) (by omega) (by omega) (by rw [hS2,Me,Mn (by rw [hb];omega),Ly (by rw [hb];omega)];rfl)) ?_;have hT:=Qr0 (r:=r) g hv S 2 (by rw [hS2,Lh,hb];omega) (by omega) (by rw [hS2];exact Cr (hb _)) (wrap .i64 (i.toNat:Int)) (by rw [w64 _ (by omega)];omega);exact hT
 have h:q=0:=Decidable.byContradiction fun x=>of_decide_eq_false h (by omega)
 have hS2:S=prB v++pl:=by rw [← hS];unfold idB;rw [if_pos h];rfl
 exact Qr0 (r:=r) g hv S 0 (by omega) (by omega) hS2 0 (g.id0 h).symm
end
end
end Go.Av
namespace Go.Av
noncomputable section
section
variable {d r:Bool} {q i:Int} {t pl:List UInt8} (g:GP d q i t pl) {v:Int} (hv:v=4∨v=5)
include g hv
theorem Qr6:Tot (fun N=>W0 N v (Qd4 v d r q i t pl)) (⟨3,flg d r q,((Q3k v q i t pl).length:Int)⟩,((1+(vb (Q3k v q i t pl).length).length:Nat):Int),0):=by
 refine TotP.tot ?_;have hf:=Qqt (r:=r) g;have hl:=Qcn g hv;have hvb:=Qpg (n:=(Q3k v q i t pl).length) (by omega)
 have e0:(UInt8.ofNat (48+(flg d r q).toNat)).toNat=48+(flg d r q).toNat:=by rw [Nl];omega
 unfold W0;refine TotP.bindE (v:=true) (.of fun _=>by rcases hv with rfl | rfl<;>rfl) ?_;refine TotP.cond (fun h=>nomatch h) (fun _=>?_);rw [Q5v];refine TotP.cond (fun h=>absurd (of_decide_eq_true h) (by unfold Qd4;exact List.cons_ne_nil _ _)) (fun _=>?_);refine TotP.idx (y:=UInt8.ofNat (48+(flg d r q).toNat)) rfl ?_;refine TotP.idx (y:=UInt8.ofNat (48+(flg d r q).toNat)) rfl ?_
 have e1:wrap .i64 ((wrap .i64 ((48+(flg d r q).toNat:Nat):Int)).tdiv 16)=3:=by
  rw [w64 ((48+(flg d r q).toNat:Nat):Int) (by omega),Bj (by omega),w64 _ (by omega)];omega
 have e2:(wrap .i64 ((48+(flg d r q).toNat:Nat):Int)).tmod 16=flg d r q:=by
  rw [w64 ((48+(flg d r q).toNat:Nat):Int) (by omega),Nc (by omega)];omega
 rw [e0,e1,e2];refine TotP.bindE (Qn8 g hv) ?_;refine TotP.cond (fun h=>nomatch h) (fun _=>?_);refine TotP.chk (by rw [Lb,Mc,Mc];unfold Qd4;simp only [Lq];omega) ?_
 have e3:((Qd4 v d r q i t pl).take (Qd4 v d r q i t pl).length).drop 1=vb (Q3k v q i t pl).length++Q3k v q i t pl:=by
  rw [Ly (Lm _)];rfl
 rw [e3];refine TotP.bindE (Qg7 _ (by omega) _) ?_;refine TotP.cond (fun h=>nomatch h) (fun _ => .ret ?_);dsimp only;rw [w64 _ (by omega),show (1:Int)+((vb (Q3k v q i t pl).length).length:Int)=((1+(vb (Q3k v q i t pl).length).length:Nat):Int) by omega]
theorem Qkl:Tot (fun N=>Yt N v (Qd4 v d r q i t pl)) (ppk d r q i t pl,((Qd4 v d r q i t pl).length:Int),0):=by
 refine TotP.tot ?_;have hl:=Qcn g hv;have hvb:=Qpg (n:=(Q3k v q i t pl).length) (by omega)
 have hL:(Qd4 v d r q i t pl).length=1+(vb (Q3k v q i t pl).length).length+(Q3k v q i t pl).length:=by unfold Qd4;simp only [Lq,Lh];omega
 unfold Yt;refine TotP.bindE (Qr6 g hv) ?_;refine TotP.cond (fun h=>nomatch h) (fun _=>?_);dsimp only;rw [w64 _ (by omega),w64 _ (by omega),W6];refine TotP.cond (fun h=>absurd (of_decide_eq_true h) (by omega)) (fun _=>?_);refine TotP.chk (decide_eq_true (by omega)) ?_;refine TotP.chk (decide_eq_true (by omega)) ?_
 have en:(((1+(vb (Q3k v q i t pl).length).length:Nat):Int)+((Q3k v q i t pl).length:Int)).toNat=(Qd4 v d r q i t pl).length:=by omega
 rw [en,Mz];refine TotP.chk (by rw [Lb,Mc,Mc];omega) ?_
 have es:((Qd4 v d r q i t pl).take (Qd4 v d r q i t pl).length).drop (1+(vb (Q3k v q i t pl).length).length)=Q3k v q i t pl:=by
  rw [Ly (Lm _)];exact Cr (l₁:=UInt8.ofNat (48+(flg d r q).toNat)::vb (Q3k v q i t pl).length) (by simp only [Lq];omega)
 rw [es];refine TotP.bindE (v:=(ppk d r q i t pl,0)) (TotP.tot ?_) ?_
 ·unfold Wt;refine TotP.cond (fun h=>nomatch h) (fun _=>?_);refine TotP.cond (fun _=>?_) (fun h=>nomatch h);exact TotP.bindE (Qqz g hv) (.ret rfl)
 refine TotP.cond (fun h=>nomatch h) (fun _=>?_);refine TotP.cond (fun h=>nomatch h) (fun _ => .ret ?_);rw [show ((1+(vb (Q3k v q i t pl).length).length:Nat):Int)+((Q3k v q i t pl).length:Int)=((Qd4 v d r q i t pl).length:Int) by omega]
end
theorem rV9 (p:Q5) (h:Qlf p) (hk:p.Kind=3) (hp:p.Props = []):TotP (fun N=>Qi N 4 p) (fun w=>w=0→∃ d r q i t pl,p=ppk d r q i t pl∧GP d q i t pl):=by
 have hno:∀ {e:Int} {P:Prop},e≠0→e=0→P:=fun a b=>absurd b a;unfold Qi;refine TotP.bindE (v:=true) (.of fun _=>rfl) ?_;refine TotP.cond (fun h=>nomatch h) (fun _=>?_);refine TotP.cond (fun _ => .ret (hno (by decide))) (fun _=>?_);refine TotP.bind (V:=fun w=>w.2=0→(0≤p.QoS∧p.QoS≤2)∧(p.QoS=0→p.Dup=false)) ?_ (fun w hw=>?_)
 ·unfold Y6;refine TotP.bindE (v:=true) (.of fun _=>rfl) ?_;refine TotP.cond (fun h=>nomatch h) (fun _=>?_);rw [hk];refine TotP.bindE (v:=true) (.of fun _=>rfl) ?_;refine TotP.cond (fun h=>nomatch h) (fun _=>?_);refine TotP.cond (fun h=>nomatch h) (fun _=>?_);refine TotP.cond (fun h=>nomatch h) (fun _=>?_);refine TotP.cond (fun h=>nomatch h) (fun _=>?_);refine TotP.cond (fun _=>?_) (fun h=>nomatch h);rw [Qz,W6,Xs];refine TotP.cond (fun _ => .ret (hno (by decide))) (fun g1=>?_);refine TotP.cond (fun _ => .ret (hno (by decide))) (fun g2=>?_);have g1:=of_decide_eq_false g1;have g2:=of_decide_eq_false g2;refine TotP.cond (fun g3=>?_) (fun g3=>?_)
  ·refine TotP.cond (fun _ => .ret (hno (by decide))) (fun g4=>?_);have g4:=of_decide_eq_false g4;exact TotP.cond (fun _ => .ret fun _=>⟨by omega,fun x=>absurd x g4⟩) (fun _ => .ret fun _=>⟨by omega,fun x=>absurd x g4⟩)
  exact TotP.cond (fun _ => .ret fun _=>⟨by omega,fun _=>g3⟩) (fun _ => .ret fun _=>⟨by omega,fun _=>g3⟩)
 rw [Wd];refine TotP.cond (fun g => .ret (hno (of_decide_eq_true g))) (fun g=>?_);have hw:=hw (Decidable.byContradiction fun x=>of_decide_eq_false g x);refine TotP.bind (Q7m p _ h.l) (fun b hb=>?_);refine TotP.cond (fun _ => .ret (hno (by decide))) (fun gb=>?_);have hb:=hb.1 (bP gb);have hn:=Qev p.Topic (by have:=h.topic;have:=ml2;omega)
 have fin:((p.QoS=0→p.ID=0)∧(p.QoS≠0→1≤p.ID∧p.ID≤65535))→TotP (fun N=>cond (Q4 .gtr ((Qc Qj.cells p.Props).length:Int) 0) (some (2:Int)) ((Ql N p).bind fun v18=>(Qm N p.Topic).bind fun v20=>cond (!v20) (cond (G0 .eql p.Topic []) (cond v18.2 (cond (!(Q4 .eql (4:Int) 5)) (some (10:Int)) ((Q6 N 4 3 p.Props).bind fun v26=>some v26)) (some 10)) (some 10)) ((Q6 N 4 3 p.Props).bind fun v28=>some v28))) (fun w=>w=0→∃ d r q i t pl,p=ppk d r q i t pl∧GP d q i t pl):=fun hid=>by
  rw [hp];refine TotP.cond (fun h=>nomatch h) (fun _=>?_);refine TotP.bind (V:=fun _=>True) ⟨(0,false),trivial,9,fun N hN=>?_⟩ (fun a _=>?_)
  ·obtain ⟨M,rfl⟩:∃ M,N=M+9:=⟨N - 9,by omega⟩;unfold Ql;rw [hp];rfl
  refine TotP.bindE hn ?_;refine TotP.cond (fun _=>?_) (fun gn=>?_)
  ·refine TotP.cond (fun _=>?_) (fun _ => .ret (hno (by decide)));refine TotP.cond (fun _=>?_) (fun _ => .ret (hno (by decide)));exact TotP.cond (fun _ => .ret (hno (by decide))) (fun h=>nomatch h)
  refine TotP.bindE (v:=0) (.of fun _=>rfl) (.ret fun _=>⟨p.Dup,p.Retain,p.QoS,p.ID,p.Topic,p.Payload,?_,⟨by omega,hw.2,hid.1,hid.2,bP gn,h.topic,h.payload⟩⟩);rw [hk,hp] at hb;exact hb
 rw [Xs,Wd,W6,Qz,W6];refine TotP.cond (fun g0=>?_) (fun g0=>?_)
 ·have g0:=of_decide_eq_true g0;refine TotP.cond (fun _ => .ret (hno (by decide))) (fun g1=>?_);have g1:p.ID=0:=Decidable.byContradiction fun x=>of_decide_eq_false g1 x;refine TotP.cond (fun x=>absurd (of_decide_eq_true x) (by omega)) (fun _=>?_);exact TotP.cond (fun _=>fin ⟨fun _=>g1,fun x=>absurd g0 x⟩) (fun h=>nomatch h)
 have g0:=of_decide_eq_false g0;refine TotP.cond (fun _=>?_) (fun x=>absurd (of_decide_eq_false x) (by omega));refine TotP.cond (fun _ => .ret (hno (by decide))) (fun g1=>?_);refine TotP.cond (fun _ => .ret (hno (by decide))) (fun g2=>?_);have g1:=of_decide_eq_false g1;have g2:=of_decide_eq_false g2;exact TotP.cond (fun _=>fin ⟨fun x=>absurd x g0,fun _=>by omega⟩) (fun h=>nomatch h)
theorem Z7x (p:Q5) (h:Qlf p) (hk:p.Kind=3) (hp:p.Props = []):TotP (fun N=>Xg N 4 p) (fun w=>w=0→∃ d r q i t pl,p=ppk d r q i t pl∧GP d q i t pl):=by
 unfold Xg;refine TotP.bind (V:=fun w=>w.2=0→∃ d r q i t pl,p=ppk d r q i t pl∧GP d q i t pl) ?_ (fun w hw => .ret hw);unfold Wo;refine TotP.bindE (v:=true) (.of fun _=>rfl) ?_;refine TotP.cond (fun h=>nomatch h) (fun _=>?_);rw [hk];refine TotP.cond (fun h=>nomatch h) (fun _=>?_);refine TotP.cond (fun h=>nomatch h) (fun _=>?_);refine TotP.cond (fun h=>nomatch h) (fun _=>?_);refine TotP.bind (V:=fun w=>w=0→∃ d r q i t pl,p=ppk d r q i t pl∧GP d q i t pl) ?_ (fun w hw=>?_)
 ·unfold Xd;rw [hk];refine TotP.cond (fun h=>nomatch h) (fun _=>?_);refine TotP.cond (fun _=>?_) (fun h=>nomatch h);exact TotP.bind (rV9 p h hk hp) (fun w hw => .ret hw)
 rw [Wd];refine TotP.cond (fun g => .ret fun x=>absurd x (of_decide_eq_true g)) (fun g=>?_);have hx:=hw (Decidable.byContradiction fun x=>of_decide_eq_false g x);refine TotP.bind (V:=fun s=>s.length≤100000) ?_ (fun s hs=>?_)
 ·obtain ⟨d,r,q,i,t,pl,rfl,gp⟩:=hx;have h1:=gp.tl;have h2:=gp.hpl;have hb:=Gn 2;unfold Xv;refine TotP.cond (fun h=>nomatch h) (fun _=>?_);refine TotP.cond (fun _=>?_) (fun h=>nomatch h);refine TotP.bind (V:=fun s=>s.1.length≤100000) ?_ (fun s hs => .ret hs);unfold V5;refine TotP.bindE (Qjd gp (.inl rfl)) ?_;refine TotP.cond (fun h=>nomatch h) (fun _=>?_)
  have ht:TotP (fun N=>Xy N t) (fun s=>s.1.length≤3000):=by
   unfold Xy;refine TotP.bindE (Q7h t) ?_;refine TotP.cond (fun _ => .ret (Md _)) (fun _=>?_);refine TotP.bindE (Qew (t.length:Int) (by omega) 2 (by omega)) ?_;exact TotP.chk (by rw [Mc,hb];omega) (.ret (by simp only [Lh,hb];omega))
  have htl:Tot (fun N=>W1 N 4 3 []) [] := .of fun _=>rfl;refine TotP.bind ht (fun a ha=>?_);refine TotP.cond (fun _=>?_) (fun _=>?_)
  ·have:=GP.idR gp;refine TotP.bindE (Qew i (by omega) 2 (by omega)) ?_;refine TotP.chk (by rw [Mc,hb];omega) ?_;refine TotP.bindE htl ?_;refine TotP.chk (by rw [Mc];simp only [Lh,hb,Mt];omega) ?_;exact TotP.chk (by rw [Mc];show _+pl.length≤_;simp only [Lh,hb,Mt];omega) (.ret (by show (_++pl).length≤_;simp only [Lh,hb,Mt];omega))
  refine TotP.bindE htl ?_;refine TotP.chk (by rw [Mc];simp only [Mt];omega) ?_;exact TotP.chk (by rw [Mc];show _+pl.length≤_;simp only [Lh,Mt];omega) (.ret (by show (_++pl).length≤_;simp only [Lh,Mt];omega))
 rw [W6];exact TotP.cond (fun g=>absurd (of_decide_eq_true g) (by omega)) (fun _ => .ret fun _=>hx)
theorem Qm5 (M:Nat):Wq (M+200)=some true:=by kernel_rfl
theorem Zap {p:Int} {d r:Bool} {q i:Int} {t pl:List UInt8}:Qxa (evP p d r q i t pl):=
 ⟨Md _,Md _,⟨Md _,Md _,Md _,Md _⟩,by show Q3.szs []<700000000;decide⟩
theorem Qic (p:Q5) (hp:Q92 p):∃ N,Zm N p=some true:=by
 have key:TotP (fun N=>Zm N p) (· = true):=by
  unfold Zm;refine TotP.bindE (v:=true) ⟨200,fun N hN=>by obtain ⟨M,rfl⟩:∃ M,N=M+200:=⟨N - 200,by omega⟩;exact Qm5 M⟩ ?_;refine TotP.cond (fun h=>by cases h) (fun _=>?_);refine TotP.bind (Qjy p hp.Filters_ok.1 hp.Props_ok.1 hp.Will_ok.Props_ok.1) (fun s hs=>?_);refine TotP.cond (fun _ => .ret rfl) (fun g=>?_);have h:=hs (bP g);rw [Wd,W6,Qa];refine TotP.cond (fun _ => .ret rfl) (fun gk=>?_);have hk:p.Kind=3:=Decidable.byContradiction fun x=>of_decide_eq_false gk x;refine TotP.cond (fun _ => .ret rfl) (fun gpr=>?_);have hP:p.Props = []:=List.length_eq_zero_iff.1 (by have:=of_decide_eq_false gpr;omega);refine TotP.bind (Z7x p h hk hP) (fun w hw=>?_);rw [Wd];refine TotP.cond (fun _ => .ret rfl) (fun g0=>?_);obtain ⟨d,r,q,i,t,pl,rfl,gp⟩:=hw (Decidable.byContradiction fun x=>of_decide_eq_false g0 x);have p1:(1:Int)=1∨(1:Int)=2 := .inl rfl;have p2:(2:Int)=1∨(2:Int)=2 := .inr rfl;have t1:Tot (fun N=>W4 N 4 (ppk d r q i t pl)) (evP 1 d r q i t pl,0):=Qyb gp p1;have t2:Tot (fun N=>W4 N 5 (ppk d r q i t pl)) (evP 2 d r q i t pl,0):=Qyb gp p2;refine TotP.bindE t1 ?_;refine TotP.bindE t2 ?_;refine TotP.cond (fun h=>nomatch h) (fun _=>?_);refine TotP.cond (fun h=>nomatch h) (fun _=>?_);refine TotP.cond (fun h=>nomatch h) (fun _=>?_);refine TotP.cond (fun h=>nomatch h) (fun _=>?_);refine TotP.bind (Qcg (evP 1 d r q i t pl) (evP 1 d r q i t pl) Zap) (fun b hb=>?_);obtain rfl:b=true:=hb.2 rfl;refine TotP.cond (fun h=>nomatch h) (fun _=>?_);refine TotP.bindE (v:=⟨1048576,32⟩) (.of fun _=>rfl) ?_;refine TotP.bindE (Qkv gp p1) ?_;refine TotP.bindE (v:=⟨1048576,32⟩) (.of fun _=>rfl) ?_;refine TotP.bindE (Qkv (r:=r) gp p2) ?_;refine TotP.bindE (Qkl (r:=r) gp (v:=4) (.inl rfl)) ?_;refine TotP.bindE (Qkl (r:=r) gp (v:=5) (.inr rfl)) ?_;have hs7:=Q8p (ppk d r q i t pl) ⟨Md _,Md _,Md _,Md _⟩;refine TotP.cond (fun _=>?_) (fun h=>nomatch h);refine TotP.cond (fun _=>?_) (fun h=>nomatch h);refine TotP.cond (fun _=>?_) (fun h=>nomatch h);refine TotP.cond (fun _=>?_) (fun h=>nomatch h);refine TotP.cond (fun _=>?_) (fun h=>?_)
  ·refine TotP.cond (fun _=>?_) (fun h=>?_)
   ·refine TotP.bind hs7 (fun b hb=>?_);subst hb;refine TotP.cond (fun _=>?_) (fun h=>nomatch h);exact TotP.bind hs7 (fun b hb => .ret hb)
   rw [Xs] at h;exact absurd rfl (of_decide_eq_false h)
  rw [Xs] at h;exact absurd rfl (of_decide_eq_false h)
 obtain ⟨N,hN⟩:=key.tot;exact ⟨N,hN N (Lm _)⟩
end
end Go.Av
