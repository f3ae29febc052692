/- Part of the proof of CrossKeeps: for every input the law returns true; no condition. -/
import Derived.Test.YtaokaobiihpkbaaGreatDoorAvOwn
import Derived.Test.YtaokaobiihpkbaaGreatDoorRound
import Derived.Test.YtaokaobiihpkbaaGreatDoorLiftF3
import Derived.Test.YtaokaobiihpkbaaGreatDoorPlainb
import Derived.Test.YtaokaobiihpkbaaGreatDoorPlain
import Derived.Test.YtaokaobiihpkbaaGreatDoorRegS
set_option linter.all false
open Go.IntKind (wrap)
namespace Go.Av
noncomputable section
section
variable {R A S T:Type}
def Tot (f:Nat→Option R) (r:R):Prop:=∃ N0,∀ N,N0≤N→f N=some r
def TotP (f:Nat→Option R) (Q:R→Prop):Prop:=∃ r,Q r∧Tot f r
theorem Tot.of {f:Nat→Option R} {r:R} (h:∀ N,f N=some r):Tot f r:=⟨0,fun N _=>h N⟩
theorem Tot.ret (r:R):Tot (fun _=>some r) r := .of fun _=>rfl
theorem Tot.bind {f:Nat→Option A} {g:Nat→A→Option R} {v:A} {r:R} (h1:Tot f v) (h2:Tot (fun N=>g N v) r):Tot (fun N=>(f N).bind (g N)) r:=by
 obtain ⟨a,ha⟩:=h1;obtain ⟨b,hb⟩:=h2;exact ⟨max a b,fun N hN=>by show (f N).bind (g N)=_;rw [ha N (by omega)];exact hb N (by omega)⟩
theorem TotP.of {f:Nat→Option R} {r:R} {Q:R→Prop} (hq:Q r) (h:Tot f r):TotP f Q:=⟨r,hq,h⟩
theorem TotP.ret {r:R} {Q:R→Prop} (h:Q r):TotP (fun _=>some r) Q:=⟨r,h,.ret r⟩
theorem TotP.mono {f:Nat→Option R} {Q Q':R→Prop} (h:TotP f Q) (hq:∀ r,Q r→Q' r):TotP f Q':=by
 obtain ⟨r,h1,h2⟩:=h;exact ⟨r,hq r h1,h2⟩
theorem TotP.tot {f:Nat→Option R} {r:R} (h:TotP f (· = r)):Tot f r:=by obtain ⟨x,rfl,h2⟩:=h;exact h2
theorem TotP.bind {f:Nat→Option A} {g:Nat→A→Option R} {V:A→Prop} {Q:R→Prop} (h1:TotP f V) (h2:∀ v,V v→TotP (fun N=>g N v) Q):TotP (fun N=>(f N).bind (g N)) Q:=by
 obtain ⟨v,hv,t⟩:=h1;obtain ⟨r,hr,u⟩:=h2 v hv;exact ⟨r,hr,t.bind u⟩
theorem TotP.bindE {f:Nat→Option A} {g:Nat→A→Option R} {v:A} {Q:R→Prop} (h1:Tot f v) (h2:TotP (fun N=>g N v) Q):TotP (fun N=>(f N).bind (g N)) Q:=by
 obtain ⟨r,hr,u⟩:=h2;exact ⟨r,hr,h1.bind u⟩
theorem TotP.cond {b:Bool} {f g:Nat→Option R} {Q:R→Prop} (h1:b=true→TotP f Q) (h2:b=false→TotP g Q):TotP (fun N=>cond b (f N) (g N)) Q:=by
 cases b
 ·exact h2 rfl
 exact h1 rfl
theorem TotP.chk {b:Bool} {f:Nat→Option R} {Q:R→Prop} (hb:b=true) (h:TotP f Q):TotP (fun N=>_root_.cond b (f N) none) Q:=by subst hb;exact h
theorem TotP.idx {l:List T} {i:Int} {y:T} {g:Nat→T→Option R} {Q:R→Prop} (h:idx l i=some y) (h2:TotP (fun N=>g N y) Q):TotP (fun N=>(Go.Av.idx l i).bind (g N)) Q:=
 .bindE (.of fun _=>h) h2
theorem TotP.optC {o:Option T} {f:Nat→T→Option R} {z:Nat→Option R} {Q:R→Prop} (h1:∀ v,o=some v→TotP (fun N=>f N v) Q) (h2:o=none→TotP z Q):TotP (fun N=>Go.Av.optC o (f N) (z N)) Q:=by
 cases o with
 | none=>exact h2 rfl
 | some v=>exact h1 v rfl
def Stp (L:Nat→Nat→S→Option R) (P:S→Prop) (Q:R→Prop) (f:Nat→Nat→Option R):Prop:=
 (∃ r N0,Q r∧∀ N n,N0≤N→f N n=some r)∨∃ s N0,P s∧∀ N n,N0≤N→f N n=L N n s
section
variable {L:Nat→Nat→S→Option R} {P:S→Prop} {Q:R→Prop}
theorem Stp.fin {f:Nat→Option R} (h:TotP f Q):Stp L P Q (fun N _=>f N):=by
 obtain ⟨r,h1,N0,h2⟩:=h;exact .inl ⟨r,N0,h1,fun N _ hN=>h2 N hN⟩
theorem Stp.ret {r:R} (h:Q r):Stp L P Q (fun _ _=>some r) := .inl ⟨r,0,h,fun _ _ _=>rfl⟩
theorem Stp.go (s:S) (h:P s):Stp L P Q (fun N n=>L N n s) := .inr ⟨s,0,h,fun _ _ _=>rfl⟩
theorem Stp.bind {f:Nat→Option A} {g:Nat→Nat→A→Option R} {V:A→Prop} (h1:TotP f V) (h2:∀ v,V v→Stp L P Q (fun N n=>g N n v)):Stp L P Q (fun N n=>(f N).bind (g N n)):=by
 obtain ⟨v,hv,a,ha⟩:=h1
 rcases h2 v hv with ⟨r,b,hr,hb⟩ | ⟨s,b,hs,hb⟩
 ·exact .inl ⟨r,max a b,hr,fun N n hN=>by show (f N).bind _=_;rw [ha N (by omega)];exact hb N n (by omega)⟩
 exact .inr ⟨s,max a b,hs,fun N n hN=>by show (f N).bind _=_;rw [ha N (by omega)];exact hb N n (by omega)⟩
theorem Stp.idx {l:List T} {i:Int} {y:T} {g:Nat→Nat→T→Option R} (h:idx l i=some y) (h2:Stp L P Q (fun N n=>g N n y)):Stp L P Q (fun N n=>(Go.Av.idx l i).bind (g N n)):=
 .bind (f:=fun _=>Go.Av.idx l i) (V:=(· = y)) ⟨y,rfl,.of fun _=>h⟩ (fun v hv=>by subst hv;exact h2)
theorem Stp.cond {b:Bool} {f g:Nat→Nat→Option R} (h1:b=true→Stp L P Q f) (h2:b=false→Stp L P Q g):Stp L P Q (fun N n=>cond b (f N n) (g N n)):=by
 cases b
 ·exact h2 rfl
 exact h1 rfl
theorem Stp.chk {b:Bool} {f:Nat→Nat→Option R} (hb:b=true) (h:Stp L P Q f):Stp L P Q (fun N n=>_root_.cond b (f N n) none):=by subst hb;exact h
theorem Q4z (inv:S→Prop) (μ:S→Nat) (step:∀ s,inv s→Stp L (fun s'=>inv s' ∧ μ s' < μ s) Q (fun N n=>L N (n+1) s)) (s:S) (h:inv s):TotP (fun N=>L N N s) Q:=by
 have key:∀ (m:Nat) (s:S),μ s<m→inv s→∃ r N0,Q r∧∀ N n,N0≤N→N0≤n→L N n s=some r:=by
  intro m
  induction m with
  | zero=>intro s h;omega
  | succ m ih=>
   intro s hm hi
   rcases step s hi with ⟨r,N0,hr,hL⟩ | ⟨s',N0,⟨h1,h2⟩,hL⟩
   ·refine ⟨r,N0+1,hr,fun N n h1 h2=>?_⟩;obtain ⟨k,rfl⟩:∃ k,n=k+1:=⟨n - 1,by omega⟩;exact hL N k (by omega)
   obtain ⟨r,M0,hr,hM⟩:=ih s' (by omega) h1;refine ⟨r,max N0 M0+1,hr,fun N n h1 h2=>?_⟩;obtain ⟨k,rfl⟩:∃ k,n=k+1:=⟨n - 1,by omega⟩;exact (hL N k (by omega)).trans (hM N k (by omega) (by omega))
 obtain ⟨r,N0,hr,hL⟩:=key (μ s+1) s (by omega) h;exact ⟨r,hr,N0,fun N hN=>hL N N hN hN⟩
end
theorem Q2s {L:Nat→Nat→Int→Option R} {Q:R→Prop} (m:Nat) (J:Nat→Prop) (step:∀ i,i<m→J i→Stp L (fun s=>s=((i+1:Nat):Int)∧J (i+1)) Q (fun N n=>L N (n+1) (i:Int)))
  (fin:J m→Stp L (fun _=>False) Q (fun N n=>L N (n+1) (m:Int))) (h0:J 0):TotP (fun N=>L N N 0) Q:=by
 refine Q4z (S:=Int) (fun s=>∃ i:Nat,s=(i:Int)∧i≤m∧J i) (fun s=>m - s.toNat) ?_ 0 ⟨0,rfl,Mi _,h0⟩
 rintro s ⟨i,rfl,hi,hj⟩
 by_cases h:i<m
 ·rcases step i h hj with ⟨r,N0,hr,hL⟩ | ⟨s',N0,⟨rfl,h2⟩,hL⟩
  ·exact .inl ⟨r,N0,hr,hL⟩
  exact .inr ⟨_,N0,⟨⟨i+1,rfl,h,h2⟩,by simp only [Lw];omega⟩,hL⟩
 have:i=m:=by omega
 subst this
 rcases fin hj with ⟨r,N0,hr,hL⟩ | ⟨s',N0,h2,hL⟩
 ·exact .inl ⟨r,N0,hr,hL⟩
 exact h2.elim
end
theorem Ql (x y:Int):Q4 .lss x y=decide (x<y):=rfl
theorem Vv (x y:Int):Q4 .leq x y=decide (x≤y):=rfl
theorem Xb (x y:Int):Q4 .gtr x y=decide (x>y):=rfl
theorem Gc (x y:Int):Q4 .geq x y=decide (x≥y):=rfl
theorem Zv (x y:Int):Q4 .eql x y=decide (x=y):=by unfold Q4;by_cases h:x=y<;>simp [h]
theorem Yc (x y:Int):Q4 .neq x y=decide (x≠y):=by unfold Q4;by_cases h:x=y<;>simp [h]
theorem w64 (x:Int) (h : -9223372036854775808≤x∧x≤9223372036854775807):wrap .i64 x=x:=IntWalk.i64_in x h
theorem Qs {T:Type} {l:List T} {i:Nat} (h:i<l.length):idx l (i:Int)=some l[i]:=Lc h
theorem Q3u:maxLen≤9223372036854775807:=by unfold maxLen;decide
end
end Go.Av
namespace Go.Av
noncomputable section
def at8 (s:List UInt8) (i:Nat):Nat:=(s.getD i 0).toNat
theorem Q8q (s:List UInt8) (i:Nat):at8 s i<256:=Di _
theorem Q93 {s:List UInt8} {i:Nat} (h:i<s.length):at8 s i=(s[i]).toNat:=by simp [at8,h]
def goes (s:List UInt8) (i:Nat):Prop:=i<s.length∧128≤at8 s i∧at8 s i<192
instance (s:List UInt8) (i:Nat):Decidable (goes s i):=inferInstanceAs (Decidable (_∧_))
def Qan (c:Nat):Prop:=¬ (55296≤c∧c≤57343)∧c≤1114111
instance (c:Nat):Decidable (Qan c):=inferInstanceAs (Decidable (_∧_))
def Q6s (s:List UInt8) (i:Nat):Nat×Nat:=
 if at8 s i<128 then (at8 s i,1)
 else if 192≤at8 s i∧at8 s i<224∧goes s (i+1)∧128≤64 * (at8 s i - 192)+(at8 s (i+1) - 128) then (64 * (at8 s i - 192)+(at8 s (i+1) - 128),2)
 else if 224≤at8 s i∧at8 s i<240∧goes s (i+1)∧goes s (i+2)∧2048≤64 * (64 * (at8 s i - 224)+(at8 s (i+1) - 128))+(at8 s (i+2) - 128)∧Qan (64 * (64 * (at8 s i - 224)+(at8 s (i+1) - 128))+(at8 s (i+2) - 128)) then
  (64 * (64 * (at8 s i - 224)+(at8 s (i+1) - 128))+(at8 s (i+2) - 128),3)
 else if 240≤at8 s i∧at8 s i<248∧goes s (i+1)∧goes s (i+2)∧goes s (i+3)∧65536≤64 * (64 * (64 * (at8 s i - 240)+(at8 s (i+1) - 128))+(at8 s (i+2) - 128))+(at8 s (i+3) - 128) ∧
   Qan (64 * (64 * (64 * (at8 s i - 240)+(at8 s (i+1) - 128))+(at8 s (i+2) - 128))+(at8 s (i+3) - 128)) then
  (64 * (64 * (64 * (at8 s i - 240)+(at8 s (i+1) - 128))+(at8 s (i+2) - 128))+(at8 s (i+3) - 128),4)
 else (65533,1)
theorem Qka (c:Nat):Utf8.valid (c:Int)=true↔Qan c:=by
 unfold Utf8.valid Qan;simp only [Lb,Nq,Nd,Ag,An];omega
theorem Qtd (a b c d:Nat) (G1 G2 G3:Prop) [Decidable G1] [Decidable G2] [Decidable G3] (h0:a<256) (q1:G1→128≤b∧b<192) (q2:G2→128≤c∧c<192) (q3:G3→128≤d∧d<192) :
  (if a<128 then (a,1)
   else if (a / 32 == 6&&decide G1)=true then (if a % 32 * 64+b % 64≥128 then (a % 32 * 64+b % 64,2) else (65533,1))
   else if (a / 16 == 14&&decide G1&&decide G2)=true then (if (decide (a % 16 * 4096+b % 64 * 64+c % 64≥2048)&&Utf8.valid ((a % 16 * 4096+b % 64 * 64+c % 64:Nat):Int))=true then (a % 16 * 4096+b % 64 * 64+c % 64,3) else (65533,1))
   else if (a / 8 == 30&&decide G1&&decide G2&&decide G3)=true then (if (decide (a % 8 * 262144+b % 64 * 4096+c % 64 * 64+d % 64≥65536)&&Utf8.valid ((a % 8 * 262144+b % 64 * 4096+c % 64 * 64+d % 64:Nat):Int))=true then (a % 8 * 262144+b % 64 * 4096+c % 64 * 64+d % 64,4) else (65533,1))
   else (65533,1)) =
  (if a<128 then (a,1)
   else if 192≤a∧a<224∧G1∧128≤64 * (a - 192)+(b - 128) then (64 * (a - 192)+(b - 128),2)
   else if 224≤a∧a<240∧G1∧G2∧2048≤64 * (64 * (a - 224)+(b - 128))+(c - 128)∧Qan (64 * (64 * (a - 224)+(b - 128))+(c - 128)) then (64 * (64 * (a - 224)+(b - 128))+(c - 128),3)
   else if 240≤a∧a<248∧G1∧G2∧G3∧65536≤64 * (64 * (64 * (a - 240)+(b - 128))+(c - 128))+(d - 128)∧Qan (64 * (64 * (64 * (a - 240)+(b - 128))+(c - 128))+(d - 128)) then
    (64 * (64 * (64 * (a - 240)+(b - 128))+(c - 128))+(d - 128),4)
   else (65533,1)):=by
 simp only [Lb,Ag,Aj,Qka,ge_iff_le];have e2:∀ x,Qan x=(¬ (55296≤x∧x≤57343)∧x≤1114111):=fun x=>rfl
 by_cases c1:a<128
 ·rw [Af c1,Af c1]
 rw [Ae c1,Ae c1]
 by_cases c2:a<192
 ·rw [Ae (by omega),Ae (by omega),Ae (by omega),Ae (by omega),Ae (by omega),Ae (by omega)]
 by_cases c3:a<224
 ·by_cases g1:G1
  ·have:=q1 g1
   have e:a % 32 * 64+b % 64=64 * (a - 192)+(b - 128):=by omega
   rw [Af ⟨by omega,g1⟩,e]
   by_cases c4:128≤64 * (a - 192)+(b - 128)
   ·rw [Af c4,Af ⟨by omega,c3,g1,c4⟩]
   rw [Ae c4,Ae (fun h=>c4 h.2.2.2),Ae (by omega),Ae (by omega)]
  rw [Ae (fun h=>g1 h.2),Ae (by omega),Ae (by omega),Ae (fun h=>g1 h.2.2.1),Ae (by omega),Ae (by omega)]
 rw [Ae (by omega),Ae (c:=192≤a∧_) (by omega)]
 by_cases c5:a<240
 ·by_cases g:G1∧G2
  ·have:=q1 g.1;have:=q2 g.2
   have e:a % 16 * 4096+b % 64 * 64+c % 64=64 * (64 * (a - 224)+(b - 128))+(c - 128):=by omega
   rw [Af ⟨⟨by omega,g.1⟩,g.2⟩,e]
   by_cases c4:2048≤64 * (64 * (a - 224)+(b - 128))+(c - 128)∧Qan (64 * (64 * (a - 224)+(b - 128))+(c - 128))
   ·rw [Af c4,Af ⟨by omega,c5,g.1,g.2,c4⟩]
   rw [Ae c4,Ae (fun h=>c4 h.2.2.2.2),Ae (by omega)]
  rw [Ae (fun h=>g ⟨h.1.2,h.2⟩),Ae (by omega),Ae (fun h=>g ⟨h.2.2.1,h.2.2.2.1⟩),Ae (by omega)]
 rw [Ae (by omega),Ae (c:=224≤a∧_) (by omega)]
 by_cases c6:a<248
 ·by_cases g:G1∧G2∧G3
  ·have:=q1 g.1;have:=q2 g.2.1;have:=q3 g.2.2
   have e:a % 8 * 262144+b % 64 * 4096+c % 64 * 64+d % 64=64 * (64 * (64 * (a - 240)+(b - 128))+(c - 128))+(d - 128):=by omega
   rw [Af ⟨⟨⟨by omega,g.1⟩,g.2.1⟩,g.2.2⟩,e]
   by_cases c4:65536≤64 * (64 * (64 * (a - 240)+(b - 128))+(c - 128))+(d - 128)∧Qan (64 * (64 * (64 * (a - 240)+(b - 128))+(c - 128))+(d - 128))
   ·rw [Af c4,Af ⟨by omega,c6,g.1,g.2.1,g.2.2,c4⟩]
   rw [Ae c4,Ae (fun h=>c4 h.2.2.2.2.2)]
  rw [Ae (fun h=>g ⟨h.1.1.2,h.1.2,h.2⟩),Ae (fun h=>g ⟨h.2.2.1,h.2.2.2.1,h.2.2.2.2.1⟩)]
 rw [Ae (by omega),Ae (by omega)]
theorem Qyv (s:List UInt8) (j:Nat):(decide (j<s.length)&&(at8 s j / 64 == 2))=decide (goes s j):=by
 have hk:=Q8q s j
 by_cases hg:goes s j
 ·have h4:at8 s j / 64=2:=by have:=hg.2;omega
  simp [hg,hg.1,h4]
 simp only [hg,decide_false,Ch,An]
 by_cases hl:j<s.length
 ·right;simp only [beq_eq_false_iff_ne,ne_eq]
  intro h4;exact hg ⟨hl,by omega,by omega⟩
 exact .inl hl
theorem Qn4 (s:List UInt8) (i:Nat):Qbu s i=Q6s s i:=by
 have u:∀ j,(s.getD j 0).toNat=at8 s j:=fun _=>rfl;have:=Qtd (at8 s i) (at8 s (i+1)) (at8 s (i+2)) (at8 s (i+3)) (goes s (i+1)) (goes s (i+2)) (goes s (i+3)) (Q8q _ _) (fun h=>h.2) (fun h=>h.2) (fun h=>h.2);unfold Q6s;rw [← this];unfold Qbu;simp only [Nr,u,Qyv];rfl
theorem Qnj (s:List UInt8) (i:Nat) (h:i<s.length):1≤(Q6s s i).2∧i+(Q6s s i).2≤s.length∧((Q6s s i).1<128↔at8 s i<128)∧(at8 s i<128→(Q6s s i).1=at8 s i∧(Q6s s i).2=1) ∧
  (∀ k,1≤k→k<(Q6s s i).2→128≤at8 s (i+k))∧Qan (Q6s s i).1:=by
 have h0:=Q8q s i;unfold Q6s;split
 ·refine ⟨by simp,by simp;omega,by simp,fun _=>⟨rfl,rfl⟩,fun k h1 h2=>by simp at h2;omega,by unfold Qan;simp;omega⟩
 split
 ·rename_i h1 h2;obtain ⟨_,_,g1,h3⟩:=h2;refine ⟨by simp,by simp;have:=g1.1;omega,by simp;omega,fun h=>by omega,fun k h4 h5=>?_,by unfold Qan;simp only;have:=g1.2;omega⟩
  have:k=1:=by simp at h5;omega
  subst this;exact g1.2.1
 split
 ·rename_i h1 h2 h3;obtain ⟨_,_,g1,g2,h3,h6⟩:=h3;refine ⟨by simp,by simp;have:=g2.1;omega,by simp;omega,fun h=>by omega,fun k h4 h5=>?_,h6⟩
  have:k=1∨k=2:=by simp at h5;omega
  rcases this with rfl | rfl
  ·exact g1.2.1
  exact g2.2.1
 split
 ·rename_i h1 h2 h3 h4;obtain ⟨_,_,g1,g2,g3,h3,h6⟩:=h4;refine ⟨by simp,by simp;have:=g3.1;omega,by simp;omega,fun h=>by omega,fun k h4 h5=>?_,h6⟩
  have:k=1∨k=2∨k=3:=by simp at h5;omega
  rcases this with rfl | rfl | rfl
  ·exact g1.2.1
  ·exact g2.2.1
  exact g3.2.1
 rename_i h1 h2 h3 h4;exact ⟨by simp,by simp;omega,by simp;omega,fun h=>by omega,fun k h4 h5=>by simp at h5;omega,by unfold Qan;simp⟩
def Qpn (s:List UInt8) (i:Nat):Prop:=Q6s s i=(65533,1)
instance (s:List UInt8) (i:Nat):Decidable (Qpn s i):=inferInstanceAs (Decidable (_=_))
def Qkh (s:List UInt8) (pos:Nat):Option Nat:=
 if h:pos<s.length then (if (Q6s s pos).1=0∨Qpn s pos then some pos else Qkh s (pos+(Q6s s pos).2)) else none
termination_by s.length - pos
decreasing_by have:=(Qnj s pos h).1;omega
end
end Go.Av
namespace Go.Av
noncomputable section
open Go.Proofs
theorem Qxd {b:UInt8} {n:Nat} (h:b.toNat=n) (hn:n<256):b=UInt8.ofNat n:=by
 apply UInt8.toNat_inj.1;rw [h];simp [UInt8.toNat_ofNat];omega
theorem Qpt {s:List UInt8} {i:Nat} (hi:i<s.length) (hc:(Q6s s i).1=65533):(3≤(s.drop i).length∧(s.drop i).take 3 = [239,191,189])↔¬ Qpn s i:=by
 constructor
 ·rintro ⟨h1,h2⟩ hn
  have hl:i+2<s.length:=by simp at h1;omega
  have g:∀ k,k<3→s[i+k]? = ([239,191,189]:List UInt8)[k]? := by
   intro k hk;rw [← h2,Mb,Af hk,Mc]
  have a0:at8 s i=239:=by have:=g 0 (by omega);simp at this;simp [at8,List.getD_eq_getElem?_getD,this]
  have a1:at8 s (i+1)=191:=by have:=g 1 (by omega);simp at this;simp [at8,List.getD_eq_getElem?_getD,this]
  have a2:at8 s (i+2)=189:=by have:=g 2 (by omega);simp at this;simp [at8,List.getD_eq_getElem?_getD,this]
  have g1:goes s (i+1):=⟨by omega,by omega,by omega⟩;have g2:goes s (i+2):=⟨by omega,by omega,by omega⟩;unfold Qpn Q6s at hn;rw [a0,a1,a2] at hn;simp [g1,g2,Qan] at hn
 intro hn;have h0:=Q8q s i;unfold Qpn at hn;unfold Q6s at hn hc;split at hn
 ·rename_i h1;rw [Af h1] at hc;simp at hc;omega
 rename_i h1;rw [Ae h1] at hc;split at hn
 ·rename_i h2;rw [Af h2] at hc;obtain ⟨_,_,g1,_⟩:=h2;have:=g1.2;simp at hc;omega
 rename_i h2;rw [Ae h2] at hc;split at hn
 ·rename_i h3;rw [Af h3] at hc;obtain ⟨_,_,g1,g2,_⟩:=h3;have b1:=g1.2;have b2:=g2.2;have l2:=g2.1
  simp only at hc
  have a0:at8 s i=239:=by omega
  have a1:at8 s (i+1)=191:=by omega
  have a2:at8 s (i+2)=189:=by omega
  rw [Q93 (by omega)] at a0 a1 a2;refine ⟨by simp;omega,?_⟩;apply Mp;intro k;rw [Mb]
  by_cases hk:k<3
  ·rw [Af hk,Mc]
   have:k=0∨k=1∨k=2:=by omega
   rcases this with rfl | rfl | rfl
   ·rw [Nr,Lc (by omega),Qxd a0 (by omega)];rfl
   ·rw [Lc (by omega),Qxd a1 (by omega)];rfl
   rw [Lc (by omega),Qxd a2 (by omega)];rfl
  rw [Ae hk];simp;omega
 rename_i h3;rw [Ae h3] at hc;split at hn
 ·rename_i h4;rw [Af h4] at hc;obtain ⟨_,_,g1,g2,g3,h5,h6⟩:=h4
  simp only at hc
  omega
 exact absurd rfl hn
theorem Qu7 (N:Nat) (s:List UInt8):Q03 N s=some (decide (3≤s.length∧s.take 3 = [239,191,189])):=by
 unfold Q03;rw [Gc]
 by_cases h:3≤s.length
 ·have h1:decide ((s.length:Int)≥3)=true:=by simp;omega
  have h2:(Nat.ble 0 3&&Nat.ble 3 s.length)=true:=by simp [h]
  rw [h1,h2];simp only [Ai,Nk,G9]
  congr 1
  by_cases h3:s.take 3 = [239,191,189]<;>simp [h,h3]
 have h1:decide ((s.length:Int)≥3)=false:=by simp;omega
 rw [h1];simp [h]
def Qyn (o:Option Nat):Int:=match o with
 | some p=>p
 | none => -1
theorem Qy0 (s:List UInt8):Tot (fun N=>Q3d N s) (Qyn (Qkh s 0)):=by
 refine TotP.tot ?_;show TotP (fun N=>Ws N s N 0) _;refine Q4z (L:=fun N n (p:Nat)=>Ws N s n p) (fun p=>Qkh s p=Qkh s 0) (fun p=>s.length - p) (fun p hp=>?_) 0 rfl;show Stp _ _ _ (fun N n=>cond (Nat.blt p s.length) _ _);refine Stp.cond (fun h=>?_) (fun h=>?_)
 ·have hl:p<s.length:=by simpa [Nat.blt_eq] using h
  rw [Qn4];have hw:=Qnj s p hl
  have hb:Qkh s p=(if (Q6s s p).1=0∨Qpn s p then some p else Qkh s (p+(Q6s s p).2)):=by rw [Qkh,dif_pos hl]
  rw [Zv,Zv];refine Stp.cond (fun h0=>?_) (fun h0=>?_)
  ·have h0:(Q6s s p).1=0:=by simpa using h0
   refine Stp.ret ?_;rw [← hp,hb,Af (.inl h0)];rfl
  have h0:(Q6s s p).1≠0:=by simpa using h0
  refine Stp.cond (fun h1=>?_) (fun h1=>?_)
  ·have h1:(Q6s s p).1=65533:=by have:=Aa h1;omega
   refine Stp.chk (by simp;omega) ?_;rw [Df];refine Stp.bind (V:=(· = decide (3≤(s.drop p).length∧(s.drop p).take 3 = [239,191,189]))) ⟨_,rfl,.of fun N=>Qu7 N _⟩ ?_
   rintro v rfl
   have hwi:=Qpt hl h1;refine Stp.cond (fun h2=>?_) (fun h2=>?_)
   ·have h2:¬ (3≤(s.drop p).length∧(s.drop p).take 3 = [239,191,189]):=by
     have:(!decide (3≤(s.drop p).length∧(s.drop p).take 3 = [239,191,189]))=true:=h2;simpa only [Nd,An] using this
    have h3:Qpn s p:=Lr fun h=>h2 (hwi.2 h);refine Stp.ret ?_;rw [← hp,hb,Af (.inr h3)];rfl
   have h2:(3≤(s.drop p).length∧(s.drop p).take 3 = [239,191,189]):=by
    have:(!decide (3≤(s.drop p).length∧(s.drop p).take 3 = [239,191,189]))=false:=h2;simpa only [Bool.not_eq_false',Ag] using this
   refine Stp.go (p+(Q6s s p).2) ⟨?_,by have:=hw.1;have:=hw.2.1;omega⟩;rw [← hp,hb,Ae]
   rintro (h | h)
   ·exact h0 h
   exact hwi.1 h2 h
  have h1:(Q6s s p).1≠65533:=by intro e;rw [e] at h1;simp at h1
  refine Stp.go (p+(Q6s s p).2) ⟨?_,by have:=hw.1;have:=hw.2.1;omega⟩;rw [← hp,hb,Ae]
  rintro (h | h)
  ·exact h0 h
  unfold Qpn at h;rw [h] at h1;exact h1 rfl
 have hl:¬ p<s.length:=fun hlt=>by
  have h':Nat.blt p s.length=true:=by rw [Bz];exact hlt
  rw [h'] at h;cases h
 refine Stp.ret ?_;rw [← hp,Qkh,dif_neg hl];rfl
def Q1z (s:List UInt8):Bool:=decide (s.length≤65535)&&(Qkh s 0).isNone
theorem Qsv (o:Option Nat):decide (Qyn o = -1)=o.isNone:=by
 cases o with
 | none=>rfl
 | some p=>simp [Qyn]
theorem Qdn (s:List UInt8):Tot (fun N=>Yy N s) (Q1z s):=by
 refine TotP.tot ?_;show TotP (fun N=>cond (Q4 .leq (s.length:Int) 65535) _ _) _;rw [Vv];refine TotP.cond (fun h=>?_) (fun h=>?_)
 ·have h:s.length≤65535:=by have:=Aa h;omega
  refine TotP.bindE (Qy0 s) (.ret ?_);rw [Zv,Qsv];simp [Q1z,h]
 have h:¬ s.length≤65535:=by have:=Ac h;omega
 exact .ret (by simp [Q1z,h])
end
end Go.Av
namespace Go.Av
noncomputable section
open Go.Proofs
theorem Qta (s:List UInt8):Tot (fun N=>Q4n N s) (decide (s ≠ [])&&Q1z s):=by
 refine TotP.tot ?_;show TotP (fun N=>cond (G9 .neq s []) _ _) _
 have e:G9 .neq s []=decide (s ≠ []):=by cases s<;>rfl
 rw [e];refine TotP.cond (fun h=>?_) (fun h=>?_)
 ·exact .bindE (Qdn s) (.ret (by rw [h];rfl))
 exact .ret (by rw [h];rfl)
theorem Qr3 (c:UInt8):∀ (l:List UInt8) (i:Nat),(0≤Qkw l c i)↔c∈l
 | [],i=>by simp [Qkw]
 | b::l,i=>by
  unfold Qkw
  by_cases h:b == c
  ·rw [Af h];have:=eq_of_beq h;subst this;simp
  rw [Ae h,Qr3 c l (i+1)];have:¬ c=b:=fun e=>h (by simp [e]);simp [this]
theorem Qtg {c:Nat} (h:Qan c) (h1:128≤c):∃ l:List UInt8,(Utf8.encode (c:Int)).data.toList=l∧2≤l.length∧l.length≤4∧∀ b∈l,128≤b.toNat:=by
 have hv:=(Qka c).2 h;unfold Utf8.encode;simp only [hv,Ak,Lw];have h2:=h.2
 have m:∀ n,n<256→128≤n→128≤(UInt8.ofNat n).toNat:=fun n a b=>by rw [Cu];omega
 rw [Ae (by omega)];split
 ·refine ⟨_,rfl,by simp,by simp,fun b hb=>?_⟩;simp only [Mk,Cg,or_false] at hb
  rcases hb with rfl | rfl<;>exact m _ (by omega) (by omega)
 split
 ·refine ⟨_,rfl,by simp,by simp,fun b hb=>?_⟩;simp only [Mk,Cg,or_false] at hb
  rcases hb with rfl | rfl | rfl<;>exact m _ (by omega) (by omega)
 refine ⟨_,rfl,by simp,by simp,fun b hb=>?_⟩;simp only [Mk,Cg,or_false] at hb
 rcases hb with rfl | rfl | rfl | rfl<;>exact m _ (by omega) (by omega)
theorem Qtu (M:Nat):Y3 (M+3) [43,35] (M+3) 0=some (-1):=by
 have e1:Qbu [43,35] 0=(43,1):=by decide
 have e2:Qbu [43,35] (0+1)=(35,1):=by decide
 have b0:Nat.blt 0 ([43,35]:List UInt8).length=true:=rfl;have b1:Nat.blt (0+1) ([43,35]:List UInt8).length=true:=rfl;have b2:Nat.blt (0+1+1) ([43,35]:List UInt8).length=false:=rfl
 have c1:Q4 .eql ((43:Nat):Int) 65533=false:=by decide
 have c2:Q4 .eql ((35:Nat):Int) 65533=false:=by decide
 rw [Y3,e1,b0,Ai,c1,Ah,Y3,e2,b1,Ai,c2,Ah,Y3,b2,Ah]
theorem Qw9 {c:Nat} (hc:Qan c) (N:Nat):Wa N (c:Int)=some true:=by
 unfold Wa;simp only [Vv,Ql];obtain ⟨k1,k2⟩:=hc;rw [Ad (show (0:Int)≤(c:Int) by omega)]
 by_cases h5:(c:Int)<55296
 ·rw [Ad h5];rfl
 have h6:(57343:Int)<(c:Int):=by omega
 have h7:(c:Int)≤1114111:=by omega
 rw [Ab h5,Ad h6,Ad h7];rfl
theorem Quf {c:Nat} (hc:Qan c) (h:128≤c) (M:Nat):Xx (M+1) [43,35] (c:Int) (M+1)=some (-1):=by
 obtain ⟨l,hl,l1,l2,l3⟩:=Qtg hc h;rw [Xx];simp only [hl,Ql,Yc]
 have ew:wrap .i64 ((l.length:Int) - 1)=((l.length - 1:Nat):Int):=by rw [w64 _ (by omega)];omega
 rw [ew]
 by_cases h2:l.length=2
 ·have e1:((l.length - 1:Nat):Int)=((1:Nat):Int):=by rw [h2]
  rw [e1];have e2:idx l ((1:Nat):Int)=some l[1]:=Qs (by omega);have e3:=l3 l[1] (Ly _);generalize l[1]=y at e2 e3
  have e4:decide (((35:UInt8).toNat:Int)≠(y.toNat:Int))=true:=by
   have:(35:UInt8).toNat=35:=rfl;simp only [ne_eq,Ag];omega
  have e5:idx ([43,35]:List UInt8) ((1:Nat):Int)=some 35:=rfl
  have e6:wrap .i64 (((1:Nat):Int)+1)=2:=by decide
  have e7:decide (((1:Nat):Int)<((([43,35]:List UInt8).length:Nat):Int))=true:=by decide
  have e8:decide ((0:Int)≤2)=true:=by decide
  rw [e7,Ai,e5,Lh,e2,Lh,e4,Ai,e6,e8,Ai]
  have e9:(Nat.ble (Int.toNat 2) ([43,35]:List UInt8).length&&Nat.ble ([43,35]:List UInt8).length ([43,35]:List UInt8).length)=true:=by decide
  rw [e9,Ai,Lh];rfl
 have e1:decide (((l.length - 1:Nat):Int)<((([43,35]:List UInt8).length:Nat):Int))=false:=by
  simp;omega
 rw [e1];rfl
theorem Qho {c:Nat} (hc:Qan c):TotP (fun N=>Jt N [43,35] (c:Int)) (fun v=>decide (v≥0)=decide (c=43∨c=35)):=by
 show TotP (fun N=>cond (Q4 .leq 0 (c:Int)) _ _) _
 have e0:Q4 .leq 0 (c:Int)=true:=by rw [Vv];simp
 rw [e0];refine TotP.cond (fun _=>?_) (fun h=>by cases h);unfold Ww;rw [Ql,Zv];refine TotP.cond (fun h=>?_) (fun h=>?_)
 ·have h:c<128:=by have:=Aa h;omega
  have ew:wrap .u8 (c:Int)=c:=by
   rw [IntWalk.u8_in];omega
  refine TotP.bindE (v:=Qkw [43,35] (UInt8.ofNat c) 0) (.of fun N=>?_) (.ret ?_)
  ·show ((Xh N [43,35] _).bind fun v=>some v)=_;rw [ew];rfl
  have:=Qr3 (UInt8.ofNat c) [43,35] 0;rw [decide_eq_decide];show (0≤_)↔_;rw [this]
  have e1:∀ n,n<256→(UInt8.ofNat c=UInt8.ofNat n↔c=n):=fun n hn=>by
   rw [← UInt8.toNat_inj,Cu,Cu];omega
  have a:=e1 43 (by omega);have b:=e1 35 (by omega);simp only [Mk,Cg,or_false];exact or_congr a b
 have h:128≤c:=by have:=Ac h;omega
 have hn:decide (c=43∨c=35)=false:=by simp;omega
 refine TotP.cond (fun h1=>?_) (fun h1=>?_)
 ·-- bytes that are none
  refine ⟨-1,by rw [hn];rfl,3,fun N hN=>?_⟩;obtain ⟨M,rfl⟩:∃ M,N=M+3:=⟨N - 3,by omega⟩;exact Qtu M
 refine TotP.bindE (.of (Qw9 hc)) ?_;refine TotP.cond (fun h=>by cases h) (fun _=>?_);refine ⟨-1,by rw [hn];rfl,1,fun N hN=>?_⟩;obtain ⟨M,rfl⟩:∃ M,N=M+1:=⟨N - 1,by omega⟩;exact Quf hc h M
end
end Go.Av
namespace Go.Av
noncomputable section
open Go.Proofs
def Qt6 (s:List UInt8):Bool:=s.any fun b=>b.toNat == 43||b.toNat == 35
theorem Qvt {s:List UInt8} {j:Nat} (hj:j<s.length) (h:at8 s j=43∨at8 s j=35):Qt6 s=true:=by
 unfold Qt6;rw [Cf];refine ⟨s[j],Ly _,?_⟩;rw [Q93 hj] at h
 rcases h with h | h<;>simp [h]
theorem Qva {s:List UInt8} (h:∀ j,j<s.length→at8 s j≠43∧at8 s j≠35):Qt6 s=false:=by
 unfold Qt6;rw [Cx];intro b hb;obtain ⟨j,hj,rfl⟩:=Mr hb;have:=h j hj;rw [Q93 hj] at this;simp [this.1,this.2]
def asciiS:List Bool:=(List.range 256).map fun n=>n == 43||n == 35
theorem Qpw (n:Nat) (h:n<256):idx asciiS (n:Int)=some (n == 43||n == 35):=by
 have hl:n<asciiS.length:=by simp [asciiS];exact h
 rw [Qs hl];simp [asciiS]
set_option maxRecDepth 20000 in
theorem Qju (s:List UInt8) (hs:s.length≤maxLen):TotP (fun N=>J1 N s) (fun v=>decide (v≥0)=Qt6 s):=by
 have hm:=Q3u;show TotP (fun N=>cond (G9 .eql [43,35] []) _ _) _;refine TotP.cond (fun h=>by cases h) (fun _=>?_);refine TotP.bindE (v:=decide ((s.length:Int)>8)) (.of fun N=>rfl) ?_;refine TotP.cond (fun _=>?_) (fun _=>?_)
 ·refine Q2s (L:=fun N n i=>Xe N s n i) s.length (fun i=>∀ j,j<i→at8 s j≠43∧at8 s j≠35) (fun i hi hj=>?_) (fun hj=>?_) (fun j hj=>by omega)
  ·show Stp _ _ _ (fun N n=>cond (Q4 .lss (i:Int) (s.length:Int)) _ _);refine Stp.cond (fun _=>?_) (fun h=>by rw [Ql] at h;have:=Ac h;omega);refine Stp.idx (Qs hi) ?_;have hb:=Di s[i];refine Stp.chk (by simp;omega) ?_;refine Stp.idx (Qpw _ (by omega)) ?_;refine Stp.cond (fun h=>?_) (fun h=>?_)
   ·refine Stp.ret ?_;rw [Qvt hi (by rw [Q93 hi];simpa using h)];simp
   rw [w64 _ (by omega)];refine Stp.go _ ⟨by omega,fun j hj'=>?_⟩
   by_cases e:j=i
   ·subst e;rw [Q93 hi];simpa using h
   exact hj j (by omega)
  show Stp _ _ _ (fun N n=>cond (Q4 .lss (s.length:Int) (s.length:Int)) _ _);refine Stp.cond (fun h=>by rw [Ql] at h;have:=Aa h;omega) (fun _=>?_);refine Stp.ret ?_;rw [Qva hj];rfl
 refine Q4z (L:=fun N n (p:Nat)=>Xc N s n p) (fun p=>∀ j,j<p→at8 s j≠43∧at8 s j≠35) (fun p=>s.length - p) (fun p hp=>?_) 0 (fun j hj=>by omega);show Stp _ _ _ (fun N n=>cond (Nat.blt p s.length) _ _);refine Stp.cond (fun h=>?_) (fun h=>?_)
 ·have hl:p<s.length:=by simpa [Nat.blt_eq] using h
  rw [Qn4];obtain ⟨w1,w2,w3,w4,w5,w6⟩:=Qnj s p hl;refine Stp.bind (Qho w6) ?_;intro v hv;rw [Gc,hv];refine Stp.cond (fun h=>?_) (fun h=>?_)
  ·have h:=Aa h;have h128:at8 s p<128:=w3.1 (by omega);refine Stp.ret ?_;rw [Qvt hl (by rw [← (w4 h128).1];exact h)];simp
  have h:=Ac h;refine Stp.go _ ⟨fun j hj=>?_,by omega⟩
  by_cases e:j<p
  ·exact hp j e
  by_cases e2:j=p
  ·subst e2
   by_cases h128:at8 s j<128
   ·rw [(w4 h128).1] at h;omega
   omega
  have:=w5 (j - p) (by omega) (by omega);rw [show p+(j - p)=j by omega] at this;omega
 refine Stp.ret ?_;rw [Qva (fun j hj=>hp j ?_)]
 ·rfl
 have:¬ p<s.length:=fun hlt=>by
  have h':Nat.blt p s.length=true:=by rw [Bz];exact hlt
  rw [h'] at h;cases h
 omega
theorem Qk7 (s:List UInt8) (hs:s.length≤maxLen):Tot (fun N=>Vt N s) (Qt6 s):=by
 refine TotP.tot ?_;refine TotP.bind (Qju s hs) (fun v hv => .ret ?_);rw [Gc];exact hv
def Q09 (s:List UInt8):Bool:=decide (s ≠ [])&&Q1z s && !Qt6 s
theorem Q86 (s:List UInt8) (hs:s.length≤maxLen):Tot (fun N=>X4 N s) (Q09 s):=by
 refine TotP.tot ?_;refine TotP.bindE (Qta s) ?_;refine TotP.cond (fun h=>?_) (fun h=>?_)
 ·refine TotP.bindE (Qk7 s hs) (.ret ?_);unfold Q09;rw [h];rfl
 exact .ret (by unfold Q09;rw [h];rfl)
end
end Go.Av
namespace Go.Av
noncomputable section
def Any {R:Type} (f:Nat→Option R):Prop:=TotP f fun _=>True
theorem Qck (N:Nat) (x a b:Int):U7 N x a b=some (decide (a≤x)&&decide (x≤b)):=by
 unfold U7;rw [Gc,Vv]
 by_cases h:a≤x
 ·rw [Ad (p:=x≥a) h];rfl
 rw [Ab (p:=x≥a) h];rfl
theorem Q7w (n size:Int):TotP (fun N=>Yl N n size) (fun l=>l.length≤16):=by
 show TotP (fun N=>cond (Q4 .leq size 0) _ _) _;rw [Vv];refine TotP.cond (fun _ => .ret (by simp)) (fun h=>?_)
 have h:0<size:=by have:=Ac h;omega
 obtain ⟨m,hm,hm16⟩:∃ m:Nat,ifB (decide (16<size)) (16:Int) size=(m:Int)∧m≤16:=by
  by_cases g:16<size
  ·exact ⟨16,by rw [Ad g];rfl,by omega⟩
  exact ⟨size.toNat,by rw [Ab g];show size=_;omega,by omega⟩
 rw [hm];refine TotP.chk (by simp only [Lb,Ag];omega) ?_;have:=Q4z (L:=fun N n' (p:Int×List Int)=>Xl N n size n' p.1 p.2) (Q:=fun l:List UInt8=>l.length≤16) (fun p=>∃ i:Nat,p.1=(i:Int)∧i≤m∧p.2.length=m) (fun p=>m - p.1.toNat)
  ?_ (0,List.replicate ((m:Int).toNat) 0) ⟨0,rfl,by omega,by simp⟩
 ·exact this
 rintro ⟨s,l⟩ ⟨i,hs,hi,hl⟩
 simp only at hs hl
 subst hs;show Stp _ _ _ (fun N n'=>cond (Q4 .lss (i:Int) (ifB (decide (16<size)) 16 size)) _ _);rw [hm,Ql,Ql];refine Stp.cond (fun h=>?_) (fun h=>?_)
 ·have h:=Aa h
  have e1:wrap .i64 ((i:Int)+1)=((i+1:Nat):Int):=by rw [w64 _ (by omega)];omega
  refine Stp.cond (fun h8=>?_) (fun h8=>?_)
  ·have h8:=Aa h8;refine Stp.chk ?_ ?_
   ·rw [w64 (8 * (i:Int)) (by omega)]
    have:i=0∨i=1∨i=2∨i=3∨i=4∨i=5∨i=6∨i=7:=by omega
    rcases this with rfl | rfl | rfl | rfl | rfl | rfl | rfl | rfl<;>rfl
   have e2:wrap .i64 (wrap .i64 ((m:Int) - 1) - (i:Int))=((m - 1 - i:Nat):Int):=by rw [w64 ((m:Int) - 1) (by omega),w64 _ (by omega)];omega
   rw [e1,e2];refine Stp.idx (Qs (show m - 1 - i<l.length by omega)) ?_;refine Stp.go (L:=fun N n' (p:Int×List Int)=>Xl N n size n' p.1 p.2) (_,_) ⟨⟨i+1,rfl,by omega,by simp [hl]⟩,?_⟩;simp only [Lw];omega
  rw [e1];refine Stp.go (L:=fun N n' (p:Int×List Int)=>Xl N n size n' p.1 p.2) (_,_) ⟨⟨i+1,rfl,by omega,hl⟩,?_⟩;simp only [Lw];omega
 exact Stp.ret (by simp [hl];exact hm16)
theorem Qkp (h:Vd) (hh:h.Node.length≤300):TotP (fun N=>Jd N h) (fun l=>l.length≤400):=by
 refine TotP.bind (Q7w _ _) (fun a ha=>?_);refine TotP.bind (Q7w _ _) (fun b hb=>?_);refine TotP.chk (by rw [Lu];omega) ?_;refine TotP.bind (Q7w _ _) (fun c hc=>?_);refine TotP.chk (by rw [Lu];simp;omega) ?_;refine TotP.chk (by rw [Lu];simp;omega) (.ret ?_)
 simp;omega
theorem Qsm (h:Vd):Any (fun N=>Jz N h):=by
 refine TotP.bind (V:=fun _=>True) ?_ (fun _ _ => .ret trivial);show TotP (fun N=>cond (Q4 .geq h.Radius 0) _ _) _;refine TotP.cond (fun _=>TotP.cond (fun _=>TotP.cond (fun _ => .ret trivial) (fun _ => .ret trivial)) (fun _ => .ret trivial)) (fun _ => .ret trivial)
section
variable (e:Qf) (lm:Xm) (h1:e.Hops.length≤8) (h2:∀ h∈e.Hops,h.Node.length≤300)
include h1 h2
end
end
end Go.Av
namespace Go.Av
noncomputable section
section
variable {R S T:Type} {L:Nat→Nat→S→Option R} {P:S→Prop} {Q:R→Prop}
theorem Stp.optN {f:Nat→Nat→T→Option R} {z:Nat→Nat→Option R} (h:Stp L P Q z):Stp L P Q (fun N n=>optC none (f N n) (z N n)):=h
theorem Stp.optS {v:T} {f:Nat→Nat→T→Option R} {z:Nat→Nat→Option R} (h:Stp L P Q (fun N n=>f N n v)):Stp L P Q (fun N n=>optC (some v) (f N n) (z N n)):=h
end
theorem Qdk {T:Type} {x:Int} {v:T}:∀ {tab:List (Int×T)},Q3o tab x=some v→(x,v)∈tab
 | (k,w)::r,h=>by
  unfold Q3o at h
  cases hb:x == k with
  | true=>rw [hb] at h;have e:=eq_of_beq hb;subst e;cases h;exact List.mem_cons_self
  | false=>rw [hb] at h;exact List.mem_cons_of_mem _ (Qdk h)
 | [],h=>nomatch h
theorem Qug {x:Int} {v:Qt} (h:Q3o F_prop_rules_tab x=some v):1≤x∧x≤42:=by
 have hall:(F_prop_rules_tab.all fun q=>decide (1≤q.1)&&decide (q.1≤42))=true:=by decide +kernel
 have:=Lp.1 hall _ (Qdk h);simpa using this
theorem Qut (p:Qk):Tot (fun N=>Gy N ⟨0,0,0,0⟩ 3 p) 9 := .of fun _=>rfl
end
end Go.Av
namespace Go.Av
noncomputable section
theorem Qdg (l:List Qk) (hb:l.length≤maxLen):TotP (fun N=>Zb N l) (fun v=>v=true→l.length≤30∧∀ p∈l,p.Text.length≤300∧p.Value.length≤300):=by
 have hm:=Q3u
 ·refine Q2s (L:=fun N n s=>Y0 N l n s) l.length (fun i=>∀ j (h:j<l.length),j<i→(l[j]).Text.length≤300∧(l[j]).Value.length≤300) (fun i hi hj=>?_) (fun hj=>?_) (fun j _ hj=>by omega)
  ·show Stp _ _ _ (fun N n=>cond (Q4 .lss (i:Int) ((Q8 Qk.cells l).length:Int)) _ _);rw [Q5,Ql];refine Stp.cond (fun _=>?_) (fun h=>by have:=Ac h;omega);refine Stp.idx (Qs hi) ?_;rw [Xb];refine Stp.cond (fun _=>Stp.ret (fun h=>nomatch h)) (fun h1=>?_);refine Stp.idx (Qs hi) ?_;rw [Xb];refine Stp.cond (fun _=>Stp.ret (fun h=>nomatch h)) (fun h2=>?_);have h1:=Ac h1;have h2:=Ac h2;rw [w64 _ (by omega)];refine Stp.go (L:=fun N n s=>Y0 N l n s) _ ⟨by omega,fun j hj' hji=>?_⟩
   by_cases e:j=i
   ·subst e;constructor<;>omega
   exact hj j hj' (by omega)
  show Stp _ _ _ (fun N n=>cond (Q4 .lss (l.length:Int) ((Q8 Qk.cells l).length:Int)) _ _);rw [Q5,Ql];refine Stp.cond (fun h=>by have:=Aa h;omega) (fun _=>Stp.ret (fun h=>⟨?_,fun p hp=>?_⟩))
  ·rw [Vv] at h;have:=Aa h;omega
  obtain ⟨j,hj',rfl⟩:=Mr hp;exact hj j hj' hj'
theorem Z2m (x:Int):wrap .i64 x≤9223372036854775807:=by rw [IntKind.wrap_i64];omega
theorem Qsb:∀ (k:Nat) (v:Q0) (deep most:Int),deep<(k:Int) → -1≤deep→deep≤1000→most≤9223372036854775807→Any (fun N=>Zp N v deep most):=by
 intro k
 induction k with
 | zero=>
  intro v deep most h _ _ _;refine ⟨wrap .i64 (most+1),trivial,1,fun N hN=>?_⟩;obtain ⟨M,rfl⟩:∃ M,N=M+1:=⟨N - 1,by omega⟩;show cond (Q4 .lss deep 0) _ _=_;rw [Ql,Ad (by omega)];rfl
 | succ k ih=>
  intro v deep most h hd hdm hm
  have body:Any (fun N=>Ug (Zp N) N v deep most):=by
   refine TotP.cond (fun _ => .ret trivial) (fun h1=>?_);refine TotP.cond (fun _ => .ret trivial) (fun h2=>?_);refine TotP.cond (fun _ => .ret trivial) (fun _=>?_);rw [Ql] at h1;rw [Q0.rows_eq,Q5,Xb] at h2;have h1:=Ac h1;have h2:=Ac h2;have:=Q4z (L:=fun N n (p:Int×Int)=>Y4 (Zp N) N v deep most n p.1 p.2) (Q:=fun _=>True) (fun p=>∃ i:Nat,p.2=(i:Int)∧i≤v.Items.length) (fun p=>v.Items.length - p.2.toNat) ?_ (1,0) ⟨0,rfl,by omega⟩
   ·exact this
   rintro ⟨q,s⟩ ⟨i,hs,hi⟩
   simp only at hs
   subst hs;show Stp _ _ _ (fun N n=>cond (Q4 .lss (i:Int) ((Q0.rows v.Items).length:Int)) _ _);rw [Q0.rows_eq,Q5,Ql];refine Stp.cond (fun h=>?_) (fun _=>Stp.ret trivial);have h:=Aa h
   have hi:i<v.Items.length:=by omega
   refine Stp.cond (fun _=>?_) (fun _=>Stp.ret trivial);refine Stp.idx (Qs hi) ?_;rw [w64 (deep - 1) (by omega)];refine Stp.bind (f:=fun N=>Zp N (v.Items[i]) (deep - 1) (wrap .i64 (most - q))) (V:=fun _=>True) (ih v.Items[i] (deep - 1) (wrap .i64 (most - q)) (by omega) (by omega) (by omega) (Z2m (most - q))) (fun w _=>?_);rw [w64 ((i:Int)+1) (by omega)];refine Stp.go (L:=fun N n (p:Int×Int)=>Y4 (Zp N) N v deep most n p.1 p.2) (_,_) ⟨⟨i+1,by simp only;omega,by omega⟩,by simp only;omega⟩
  obtain ⟨r,_,N0,hN⟩:=body;refine ⟨r,trivial,N0+1,fun N h=>?_⟩;obtain ⟨M,rfl⟩:∃ M,N=M+1:=⟨N - 1,by omega⟩;exact hN M (by omega)
theorem Qpp (f:Zn):Any (fun N=>Y5 N f):=by
 refine TotP.cond (fun _ => .ret trivial) (fun h0=>?_);rw [Q0.rows_eq,Q5,Xb] at h0;have h0:=Ac h0;refine TotP.cond (fun _ => .ret trivial) (fun _=>?_);refine Q2s (L:=fun N n s=>Z9 N f n s) f.Values.length (fun _=>True) (fun i hi _=>?_) (fun _=>?_) trivial
 ·show Stp _ _ _ (fun N n=>cond (Q4 .lss (i:Int) ((Q0.rows f.Values).length:Int)) _ _);rw [Q0.rows_eq,Q5];refine Stp.cond (fun _=>?_) (fun _=>Stp.ret trivial);refine Stp.idx (Qs hi) ?_;refine Stp.bind (V:=fun _=>True) (TotP.bind (Qsb 7 _ 6 40 (by decide) (by decide) (by decide) (by decide)) (fun _ _ => .ret trivial)) (fun _ _=>?_);refine Stp.cond (fun _=>Stp.ret trivial) (fun _=>?_);rw [w64 _ (by omega)];exact Stp.go (L:=fun N n s=>Z9 N f n s) _ ⟨by omega,trivial⟩
 show Stp _ _ _ (fun N n=>cond (Q4 .lss (f.Values.length:Int) ((Q0.rows f.Values).length:Int)) _ _);rw [Q0.rows_eq,Q5];refine Stp.cond (fun h=>by rw [Ql] at h;have:=Aa h;omega) (fun _=>Stp.ret trivial)
structure OkE (e:Qf):Prop where
 topic:e.Topic.length≤maxLen
 props:e.Props.length≤maxLen
 filters:e.Packet.Filters.length≤maxLen
 pprops:e.Packet.Props.length≤maxLen
 wprops:e.Packet.Will.Props.length≤maxLen
structure LightE (e:Qf):Prop where
 topic:e.Topic.length≤2000
 payload:e.Payload.length≤2000
 props:e.Props.length≤30∧∀ p∈e.Props,p.Text.length≤300∧p.Value.length≤300
 hops:e.Hops.length≤8∧∀ h∈e.Hops,h.Node.length≤300
def Lv (o:Option Int) (P:Prop):Prop:=∃ v,o=some v∧(v=0→P)
theorem Lv.of {v:Int} {P:Prop} (h:P):Lv (some v) P:=⟨v,rfl,fun _=>h⟩
theorem Lv.no {v:Int} {P:Prop} (h:v≠0):Lv (some v) P:=⟨v,rfl,fun e=>absurd e h⟩
theorem Lv.cond {b:Bool} {x y:Option Int} {P:Prop} (h1:Lv x P) (h2:Lv y P):Lv (cond b x y) P:=by cases b<;>assumption
structure PubE (e:Qf):Prop where
 proto:e.Proto=1∨e.Proto=2∨e.Proto=3∨e.Proto=4
 kind:e.Kind=1
 qos:e.QoS = -1∨e.QoS=0∨e.QoS=1∨e.QoS=2
theorem Qt4 (N:Nat) (p:Int):Q1d N p=some (decide (p=1∨p=2∨p=3∨p=4)):=by
 by_cases h:p=1∨p=2∨p=3∨p=4
 ·rw [Ad h];rcases h with rfl | rfl | rfl | rfl<;>rfl
 have h0:Q3o Gg p=none:=by
  have h1:(p == 1)=false:=by simp;omega
  have h2:(p == 2)=false:=by simp;omega
  have h3:(p == 3)=false:=by simp;omega
  have h4:(p == 4)=false:=by simp;omega
  unfold Gg;simp only [Q3o,h1,h2,h3,h4,Ah]
 unfold Q1d;rw [h0,Ab h];rfl
end
end Go.Av
namespace Go.Av
noncomputable section
open Go.Proofs
set_option maxRecDepth 100000
end
end Go.Av
namespace Go.Av
noncomputable section
open Go.Proofs
set_option maxRecDepth 100000
end
end Go.Av
namespace Go.Av
noncomputable section
open Go.Proofs
set_option maxRecDepth 100000
end
end Go.Av
namespace Go.Av
noncomputable section
open Go.Proofs
set_option maxRecDepth 100000
theorem Qww (v:Q0) (h:v.txt):v.wgt≤430 * v.sz:=by
 induction v using Q0.ind with
 | h v ih=>
  rw [Q0.txt_eq] at h
  have hl:∀ l:List Q0,(∀ x∈l,x.wgt≤430 * x.sz)→Q0.wgts l≤430 * Q0.szs l:=by
   intro l
   induction l with
   | nil=>intro _;simp [Q0.wgts]
   | cons x l ihl=>
    intro h;have h1:=h x (.head _);have h2:=ihl (fun y hy=>h y (.tail _ hy));simp only [Q0.wgts,Q0.szs];omega
  have:=hl v.Items (fun x hx=>ih x hx (Qhv _ h.2 x hx));rw [v.wgt_eq,v.sz_eq];omega
end
end Go.Av
namespace Go.Av
noncomputable section
open Go.Proofs
set_option maxRecDepth 100000
end
end Go.Av
namespace Go.Av
noncomputable section
open Go.Proofs
set_option maxRecDepth 100000
end
end Go.Av
namespace Go.Av
noncomputable section
open Go.Proofs
set_option maxRecDepth 100000
structure FB (f:Zn):Prop where
 fine:∀ x∈f.Values,Fine x
 sz:Q0.szs f.Values<160000000
 wgt:Q0.wgts f.Values<4000000000
theorem FB.len {f:Zn} (h:FB f):f.Values.length<160000000:=by
 have h1:=Q0.szs_len f.Values;have h2:=h.sz;omega
end
end Go.Av
namespace Go.Av
noncomputable section
open Go.Proofs
set_option maxRecDepth 100000
theorem Zn.ext' {a b:Zn} (h1:a.Type'=b.Type') (h2:a.Channel=b.Channel) (h3:a.Ext=b.Ext) (h4:a.Values=b.Values):a=b:=by cases a;cases b;simp_all
noncomputable instance:DecidableEq Zn:=fun a b=>decidable_of_iff (a.Type'=b.Type'∧a.Channel=b.Channel∧a.Ext=b.Ext∧a.Values=b.Values) ⟨fun h=>Zn.ext' h.1 h.2.1 h.2.2.1 h.2.2.2,fun h=>by rw [h];exact ⟨rfl,rfl,rfl,rfl⟩⟩
theorem Qmo (l m:List Q0) (i:Nat) (h:i<l.length) (h':i<m.length):decide (l.drop i=m.drop i)=(decide (l[i]=m[i])&&decide (l.drop (i+1)=m.drop (i+1))):=by
 rw [Nh h,Nh h',Bl];simp only [Ag,Lb,Br]
theorem Qin {N:Nat} (hN:800000000≤N) {a b:Zn} (ha:Q0.szs a.Values<700000000) (hl:a.Values.length=b.Values.length):∀ (n i:Nat),i≤a.Values.length→a.Values.length - i<n→Xa N a b n (i:Int)=some (decide (a.Values.drop i=b.Values.drop i))
 | 0,i,_,h=>by omega
 | n+1,i,hi,hn=>by
  have hs:=Q0.szs_len a.Values;simp only [Xa,Q2f,Qi5,G4,Q7o]
  by_cases h:i<a.Values.length
  ·have h':i<b.Values.length:=by omega
   have hx:=Q0.szs_mem _ _ (Ly h);rw [Af (by omega),Lc h,Lc h'];simp only [Lh];rw [Qsk N _ _ (by omega) (by omega),Qmo _ _ i h h'];simp only [Lh];rw [Q73 _ (by omega)];have ih:=Qin hN ha hl n (i+1) (by omega) (by omega)
   have ih:Xa N a b n ((i:Int)+1)=some (decide (a.Values.drop (i+1)=b.Values.drop (i+1))):=by exact_mod_cast ih
   rw [ih];cases decide (a.Values[i]=b.Values[i])<;>rfl
  rw [Ae (by omega),Mj (by omega),Mj (by omega)];rfl
theorem Qqm {N:Nat} (hN:800000000≤N) (a b:Zn) (ha:Q0.szs a.Values<700000000):Q00 N a b=some (decide (a=b)):=by
 have hs:=Q0.szs_len a.Values;simp only [Q00,Q2f,Qui,Qcq,G4]
 by_cases h1:a.Type'=b.Type'
 ·rw [Ae (by simp [h1])]
  by_cases h2:a.Channel=b.Channel
  ·rw [Ae (by simp [h2])]
   by_cases h3:a.Ext=b.Ext
   ·rw [Ae (by simp [h3])]
    by_cases h4:a.Values.length=b.Values.length
    ·rw [Ae (by simp [h4])];have:=Qin hN ha h4 N 0 (by omega) (by omega);rw [Nk,Nk] at this
     have:Xa N a b N 0=some (decide (a.Values=b.Values)):=by exact_mod_cast this
     rw [this]
     congr 1
     rw [Bl];simp only [Ag];exact ⟨fun h=>Zn.ext' h1 h2 h3 h,fun h=>by rw [h]⟩
    rw [Af (by omega),Ab (fun h=>h4 (by rw [h]))]
   rw [Af h3,Ab (fun h=>h3 (by rw [h]))]
  rw [Af h2,Ab (fun h=>h2 (by rw [h]))]
 rw [Af h1,Ab (fun h=>h1 (by rw [h]))]
theorem Qbl {N:Nat} (hN:800000000≤N) {a b:Zn} (ha:Q0.szs a.Values<700000000) (hl:a.Values.length=b.Values.length):∀ (n i:Nat),i≤a.Values.length→a.Values.length - i<n→Zx N a b n (i:Int)=some (decide (a.Values.drop i=b.Values.drop i))
 | 0,i,_,h=>by omega
 | n+1,i,hi,hn=>by
  have hs:=Q0.szs_len a.Values;simp only [Zx,Q2f,Qi5,G4,Q7o]
  by_cases h:i<a.Values.length
  ·have h':i<b.Values.length:=by omega
   have hx:=Q0.szs_mem _ _ (Ly h);rw [Af (by omega),Lc h,Lc h'];simp only [Lh];rw [Qfh N _ _ (by omega) (by omega),Qmo _ _ i h h'];simp only [Lh];rw [Q73 _ (by omega)];have ih:=Qbl hN ha hl n (i+1) (by omega) (by omega)
   have ih:Zx N a b n ((i:Int)+1)=some (decide (a.Values.drop (i+1)=b.Values.drop (i+1))):=by exact_mod_cast ih
   rw [ih];cases decide (a.Values[i]=b.Values[i])<;>rfl
  rw [Ae (by omega),Mj (by omega),Mj (by omega)];rfl
theorem Qbk {N:Nat} (hN:800000000≤N) (a b:Zn) (ha:Q0.szs a.Values<700000000):Wr N a b=some (decide (a=b)):=by
 have hs:=Q0.szs_len a.Values;simp only [Wr,Q2f,Qui,Qcq,G4]
 by_cases h1:a.Type'=b.Type'
 ·rw [Ae (by simp [h1])]
  by_cases h2:a.Channel=b.Channel
  ·rw [Ae (by simp [h2])]
   by_cases h3:a.Ext=b.Ext
   ·rw [Ae (by simp [h3])]
    by_cases h4:a.Values.length=b.Values.length
    ·rw [Ae (by simp [h4])];have:=Qbl hN ha h4 N 0 (by omega) (by omega);rw [Nk,Nk] at this
     have:Zx N a b N 0=some (decide (a.Values=b.Values)):=by exact_mod_cast this
     rw [this]
     congr 1
     rw [Bl];simp only [Ag];exact ⟨fun h=>Zn.ext' h1 h2 h3 h,fun h=>by rw [h]⟩
    rw [Af (by omega),Ab (fun h=>h4 (by rw [h]))]
   rw [Af h3,Ab (fun h=>h3 (by rw [h]))]
  rw [Af h2,Ab (fun h=>h2 (by rw [h]))]
 rw [Af h1,Ab (fun h=>h1 (by rw [h]))]
theorem Qjq {N:Nat} (hN:800000000≤N) {f:Zn} (hl:f.Values.length≤6):∀ (n i:Nat),i≤f.Values.length→f.Values.length - i<n→∃ b,Z9 N f n (i:Int)=some b∧(b=true→∀ x∈f.Values.drop i,x.sz≤40∧x.txt)
 | 0,i,_,h=>by omega
 | n+1,i,hi,hn=>by
  simp only [Z9,Q2f,Qi5,G4,Q7o]
  by_cases h:i<f.Values.length
  ·rw [Af (by omega),Lc h];obtain ⟨b1,l1,l2⟩:=Qpe N f.Values[i] (by omega);simp only [Lh,l1]
   cases b1 with
   | false=>exact ⟨false,rfl,fun h=>by cases h⟩
   | true=>
    rw [Q73 _ (by omega)];obtain ⟨b,e1,e2⟩:=Qjq hN hl n (i+1) (by omega) (by omega);refine ⟨b,?_,fun hb x hx=>?_⟩
    ·simp only [Nt,Ll,Al];exact_mod_cast e1
    rw [Nh h] at hx
    rcases Mk.1 hx with rfl | hx
    ·exact l2 rfl
    exact e2 hb x hx
  rw [Ae (by omega),Mj (by omega)];exact ⟨true,rfl,fun _ x hx=>by cases hx⟩
theorem Qlf {N:Nat} (hN:800000000≤N) (f:Zn):∃ b,Y5 N f=some b∧(b=true→f.Values.length≤6∧f.Ext.length≤1100∧∀ x∈f.Values,x.sz≤40∧x.txt):=by
 simp only [Y5,Q2f,Z0j,G4]
 by_cases h1:(f.Values.length:Int)>6
 ·rw [Af h1];exact ⟨false,rfl,fun h=>by cases h⟩
 rw [Ae h1]
 by_cases h2:(f.Ext.length:Int)>1100
 ·rw [Af h2];exact ⟨false,rfl,fun h=>by cases h⟩
 rw [Ae h2];obtain ⟨b,e1,e2⟩:=Qjq hN (f:=f) (by omega) N 0 (by omega) (by omega);refine ⟨b,by exact_mod_cast e1,fun hb=>⟨by omega,by omega,?_⟩⟩;have:=e2 hb
 rwa [Nk] at this
theorem Qge:∀ (l:List Q0),(∀ x∈l,x.sz≤40∧x.txt)→Q0.szs l≤40 * l.length∧Q0.wgts l≤17200 * l.length
 | [],_=>by simp [Q0.szs,Q0.wgts]
 | x::m,h=>by
  have h1:=h x (.head _);have h2:=Qge m (fun y hy=>h y (.tail _ hy));have h3:=Qww x h1.2;simp only [Q0.szs,Q0.wgts,Mm];omega
theorem Qto {f:Zn} (hl:f.Values.length≤6) (h:∀ x∈f.Values,x.sz≤40∧x.txt) (hv:∀ x∈f.Values,OkV x):FB f:=by
 obtain ⟨h1,h2⟩:=Qge _ h;exact ⟨fun x hx=>Qxg x (hv x hx) (h x hx).2,by omega,by omega⟩
end
end Go.Av
namespace Go.Av
noncomputable section
theorem Qcb (x y:List UInt8):G9 .eql x y=decide (x=y):=by
 show (x == y)=_
 by_cases h:x=y
 ·rw [h];simp
 rw [Ab h];exact beq_eq_false_iff_ne.2 h
theorem Q6i (x y:List UInt8):G9 .neq x y=decide (x≠y):=by
 show (!(x == y))=_
 by_cases h:x=y
 ·rw [h];simp
 rw [Ad h,beq_eq_false_iff_ne.2 h];rfl
section
variable {T:Type}
theorem Qcy {L:Nat→Nat→Int→Option Bool} {a b:List T} {eq:T→T→Bool} (heq:∀ x y,eq x y=true↔x=y) (hab:a.length=b.length) (hm:a.length≤maxLen)
  (step:∀ N n (i:Nat) (h:i<a.length) (h':i<b.length),L N (n+1) (i:Int)=cond (!(eq a[i] b[i])) (some false) (L N n (wrap .i64 ((i:Int)+1)))) (fin:∀ N n,L N (n+1) (a.length:Int)=some true) :
  TotP (fun N=>L N N 0) (fun v=>v=true↔a=b):=by
 have hml:=Q3u;refine Q2s (L:=L) a.length (fun i=>∀ j (h:j<a.length) (h':j<b.length),j<i→a[j]=b[j]) (fun i hi hj=>?_) (fun hj=>?_) (fun j _ _ hj=>by omega)
 ·have e:(fun N n=>L N (n+1) (i:Int))=fun N n=>cond (!(eq (a[i]'hi) (b[i]'(by omega)))) (some false) (L N n (wrap .i64 ((i:Int)+1))):=by
   funext N n;exact step N n i hi (by omega)
  rw [e,w64 _ (by omega)];refine Stp.cond (fun h=>Stp.ret ?_) (fun h=>Stp.go (L:=L) _ ⟨by omega,fun j hj1 hj2 hji=>?_⟩)
  ·have h:¬ eq (a[i]'hi) (b[i]'(by omega))=true:=by simpa using h
   refine ⟨fun h=>(by cases h),fun e=>absurd ((heq _ _).2 ?_) h⟩;subst e;rfl
  have h:eq (a[i]'hi) (b[i]'(by omega))=true:=by simpa using h
  by_cases e:j=i
  ·subst e;exact (heq _ _).1 h
  exact hj j hj1 hj2 (by omega)
 have e:(fun N n=>L N (n+1) (a.length:Int))=fun _ _=>some true:=by funext N n;exact fin N n
 rw [e];exact Stp.ret ⟨fun _=>List.ext_getElem hab (fun j h1 h2=>hj j h1 h2 h1),fun _=>rfl⟩
end
theorem Qyr {x y:Qk}:(((x.ID:Int) == y.ID)&&(((x.N':Int) == y.N')&&(((x.Text:List UInt8) == y.Text)&&(((x.Value:List UInt8) == y.Value)&&true))))=true↔x=y:=by
 cases x;cases y;simp
theorem Zl7 {x y:Vd}:(((x.Radius:Int) == y.Radius)&&(((x.Node:List UInt8) == y.Node)&&true))=true↔x=y:=by
 cases x;cases y;simp
theorem Qr5 {x y:Z0}:(((x.Topic:List UInt8) == y.Topic)&&(((x.QoS:Int) == y.QoS)&&(((x.NoLocal:Bool) == y.NoLocal)&&(((x.AsPublished:Bool) == y.AsPublished)&&(((x.Handling:Int) == y.Handling)&&true)))))=true↔x=y:=by
 cases x;cases y;simp
theorem Qbj (a b:List Qk) (ha:a.length≤maxLen):TotP (fun N=>Wp N a b) (fun v=>v=true↔a=b):=by
 unfold Wp;rw [Q5,Q5,Yc];refine TotP.cond (fun h => .ret ⟨fun h=>(by cases h),fun e=>?_⟩) (fun h=>?_)
 ·have:=Aa h;subst e;exact absurd rfl this
 have h:=Ac h
 have hab:a.length=b.length:=by omega
 refine Qcy (L:=fun N n i=>Xp N a b n i) (eq:=fun x y=>((x.ID:Int) == y.ID)&&(((x.N':Int) == y.N')&&(((x.Text:List UInt8) == y.Text)&&(((x.Value:List UInt8) == y.Value)&&true)))) (fun _ _=>Qyr) hab ha (fun N n i h h'=>?_) (fun N n=>?_)
 ·show cond (Q4 .lss (i:Int) ((Q8 Qk.cells a).length:Int)) ((idx a (i:Int)).bind _) _=_;rw [Q5,Ql,Ad (by omega),Qs h,Qs h'];rfl
 show cond (Q4 .lss (a.length:Int) ((Q8 Qk.cells a).length:Int)) _ _=_;rw [Q5,Ql,Ab (by omega)];rfl
theorem Qez (a b:List Z0) (ha:a.length≤maxLen):TotP (fun N=>Wz N a b) (fun v=>v=true↔a=b):=by
 unfold Wz;rw [Q5,Q5,Yc];refine TotP.cond (fun h => .ret ⟨fun h=>(by cases h),fun e=>?_⟩) (fun h=>?_)
 ·have:=Aa h;subst e;exact absurd rfl this
 have h:=Ac h
 have hab:a.length=b.length:=by omega
 refine Qcy (L:=fun N n i=>X1 N a b n i) (eq:=fun x y=>((x.Topic:List UInt8) == y.Topic)&&(((x.QoS:Int) == y.QoS)&&(((x.NoLocal:Bool) == y.NoLocal)&&(((x.AsPublished:Bool) == y.AsPublished)&&(((x.Handling:Int) == y.Handling)&&true))))) (fun _ _=>Qr5) hab ha (fun N n i h h'=>?_) (fun N n=>?_)
 ·show cond (Q4 .lss (i:Int) ((Q8 Z0.cells a).length:Int)) ((idx a (i:Int)).bind _) _=_;rw [Q5,Ql,Ad (by omega),Qs h,Qs h'];rfl
 show cond (Q4 .lss (a.length:Int) ((Q8 Z0.cells a).length:Int)) _ _=_;rw [Q5,Ql,Ab (by omega)];rfl
theorem Qld (a b:List Int) (ha:a.length≤maxLen):TotP (fun N=>Gv N a b) (fun v=>v=true↔a=b):=by
 unfold Gv;rw [Q5,Q5,Yc];refine TotP.cond (fun h => .ret ⟨fun h=>(by cases h),fun e=>?_⟩) (fun h=>?_)
 ·have:=Aa h;subst e;exact absurd rfl this
 have h:=Ac h
 have hab:a.length=b.length:=by omega
 refine Qcy (L:=fun N n i=>Vp N a b n i) (eq:=fun x y=>Q4 .eql x y) (fun x y=>by rw [Zv];exact decide_eq_true_iff) hab ha (fun N n i h h'=>?_) (fun N n=>?_)
 ·show cond (Q4 .lss (i:Int) ((Q8 (cI .i64) a).length:Int)) ((idx a (i:Int)).bind _) _=_;rw [Q5,Ql,Ad (by omega),Qs h,Qs h'];rfl
 show cond (Q4 .lss (a.length:Int) ((Q8 (cI .i64) a).length:Int)) _ _=_;rw [Q5,Ql,Ab (by omega)];rfl
structure Qwt (p:Qu):Prop where
 codes:p.Codes.length≤maxLen
 filters:p.Filters.length≤maxLen
 props:p.Props.length≤maxLen
 wprops:p.Will.Props.length≤maxLen
theorem Qja (a b:J2) (ha:a.Props.length≤maxLen):TotP (fun N=>Q07 N a b) (fun v=>v=true↔a=b):=by
 obtain ⟨t,p,q,r,l⟩:=a;obtain ⟨t',p',q',r',l'⟩:=b;unfold Q07;dsimp only;rw [Qcb,Qcb,Zv];refine TotP.cond (fun h1=>?_) (fun h1 => .ret ⟨fun h=>(by cases h),fun e=>?_⟩)
 ·refine TotP.cond (fun h2=>?_) (fun h2 => .ret ⟨fun h=>(by cases h),fun e=>?_⟩)
  ·refine TotP.cond (fun h3=>?_) (fun h3 => .ret ⟨fun h=>(by cases h),fun e=>?_⟩)
   ·refine TotP.cond (fun h4=>?_) (fun h4 => .ret ⟨fun h=>(by cases h),fun e=>?_⟩)
    ·refine TotP.bind (Qbj l l' ha) (fun v hv => .ret ?_);rw [hv];have h1:=Aa h1;have h2:=Aa h2;have h3:=Aa h3;have h4:=eq_of_beq h4;subst h1 h2 h3 h4;simp
    injection e with _ _ _ e _;subst e;simp at h4
   injection e with _ _ e _ _;exact absurd e (Ac h3)
  injection e with _ e _ _ _;exact absurd e (Ac h2)
 injection e with e _ _ _ _;exact absurd e (Ac h1)
theorem Qiz (a b:Qu) (ha:Qwt a):TotP (fun N=>Q3p N a b) (fun v=>v=true↔a=b):=by
 unfold Q3p;refine TotP.bindE (.of fun N=>rfl) ?_;refine TotP.bindE (.of fun N=>rfl) ?_;refine TotP.cond (fun h1=>?_) (fun h1 => .ret ⟨fun h=>(by cases h),fun e=>?_⟩)
 ·refine TotP.bind (Qja a.Will b.Will ha.wprops) (fun v2 h2=>?_);refine TotP.cond (fun e2=>?_) (fun e2 => .ret ⟨fun h=>(by cases h),fun e=>?_⟩)
  ·refine TotP.bind (Qld a.Codes b.Codes ha.codes) (fun v3 h3=>?_);refine TotP.cond (fun e3=>?_) (fun e3 => .ret ⟨fun h=>(by cases h),fun e=>?_⟩)
   ·refine TotP.bind (Qez a.Filters b.Filters ha.filters) (fun v4 h4=>?_);refine TotP.cond (fun e4=>?_) (fun e4 => .ret ⟨fun h=>(by cases h),fun e=>?_⟩)
    ·refine TotP.bind (Qbj a.Props b.Props ha.props) (fun v5 h5 => .ret ?_);rw [h5];have e2:=h2.1 e2;have e3:=h3.1 e3;have e4:=h4.1 e4;obtain ⟨a1,a2,a3,a4,a5,a6,a7,a8,a9,a10,a11,a12,a13,a14,a15,a16,a17,a18,a19,a20,a21⟩:=a;obtain ⟨b1,b2,b3,b4,b5,b6,b7,b8,b9,b10,b11,b12,b13,b14,b15,b16,b17,b18,b19,b20,b21⟩:=b;dsimp only at e2 e3 e4 ⊢;simp at h1;simp [h1,e2,e3,e4]
    subst e;exact absurd (h4.2 rfl) (by rw [e4];simp)
   subst e;exact absurd (h3.2 rfl) (by rw [e3];simp)
  subst e;exact absurd (h2.2 rfl) (by rw [e2];simp)
 subst e;simp at h1
end
end Go.Av
namespace Go.Av
noncomputable section
theorem Qci (n:Int) (size:Nat) (h0:1≤size) (h16:size≤16):TotP (fun N=>Yl N n (size:Int)) (fun l=>l.length=size):=by
 show TotP (fun N=>cond (Q4 .leq (size:Int) 0) _ _) _;rw [Vv];refine TotP.cond (fun h=>by have:=Aa h;omega) (fun _=>?_)
 have hm:ifB (decide (16<(size:Int))) (16:Int) (size:Int)=(size:Int):=by rw [Ab (by omega)];rfl
 rw [hm];refine TotP.chk (by simp only [Lb,Ag];omega) ?_;have:=Q4z (L:=fun N n' (p:Int×List Int)=>Xl N n (size:Int) n' p.1 p.2) (Q:=fun l:List UInt8=>l.length=size) (fun p=>∃ i:Nat,p.1=(i:Int)∧i≤size∧p.2.length=size) (fun p=>size - p.1.toNat)
  ?_ (0,List.replicate ((size:Int).toNat) 0) ⟨0,rfl,by omega,by simp⟩
 ·exact this
 rintro ⟨s,l⟩ ⟨i,hs,hi,hl⟩
 simp only at hs hl
 subst hs;show Stp _ _ _ (fun N n'=>cond (Q4 .lss (i:Int) (ifB (decide (16<(size:Int))) 16 (size:Int))) _ _);rw [hm,Ql,Ql];refine Stp.cond (fun h=>?_) (fun h=>?_)
 ·have h:=Aa h
  have e1:wrap .i64 ((i:Int)+1)=((i+1:Nat):Int):=by rw [w64 _ (by omega)];omega
  refine Stp.cond (fun h8=>?_) (fun h8=>?_)
  ·have h8:=Aa h8;refine Stp.chk ?_ ?_
   ·rw [w64 (8 * (i:Int)) (by omega)]
    have:i=0∨i=1∨i=2∨i=3∨i=4∨i=5∨i=6∨i=7:=by omega
    rcases this with rfl | rfl | rfl | rfl | rfl | rfl | rfl | rfl<;>rfl
   have e2:wrap .i64 (wrap .i64 ((size:Int) - 1) - (i:Int))=((size - 1 - i:Nat):Int):=by rw [w64 ((size:Int) - 1) (by omega),w64 _ (by omega)];omega
   rw [e1,e2];refine Stp.idx (Qs (show size - 1 - i<l.length by omega)) ?_;refine Stp.go (L:=fun N n' (p:Int×List Int)=>Xl N n (size:Int) n' p.1 p.2) (_,_) ⟨⟨i+1,rfl,by omega,by simp [hl]⟩,?_⟩;simp only [Lw];omega
  rw [e1];refine Stp.go (L:=fun N n' (p:Int×List Int)=>Xl N n (size:Int) n' p.1 p.2) (_,_) ⟨⟨i+1,rfl,by omega,hl⟩,?_⟩;simp only [Lw];omega
 exact Stp.ret (by simp [hl])
theorem Qx2 {R:Type} {f:Nat→Option R} {r:R} (h:Tot f r):Any f:=⟨r,trivial,h⟩
theorem TotP.any {R:Type} {f:Nat→Option R} {Q:R→Prop} (h:TotP f Q):Any f:=h.mono fun _ _=>trivial
theorem Zg9 {k:Int} (h:0≤k∧k≤18446744073709551615):wrap .u64 k=k:=IntWalk.u64_in k h
structure OkP (l:List Qk):Prop where
 len:l.length≤30
 txt:∀ p∈l,p.Text.length≤maxLen
structure Qr6 (p:Qu):Prop where
 l:Qwt p
 props:OkP p.Props
 wprops:OkP p.Will.Props
 topic:p.Topic.length≤2000
 payload:p.Payload.length≤2000
 client:p.Client.length≤2000
 user:p.User.length≤2000
 pass:p.Pass.length≤2000
 wtopic:p.Will.Topic.length≤2000
 wpayload:p.Will.Payload.length≤2000
 codes:p.Codes.length≤30
 filters:p.Filters.length≤30∧∀ f∈p.Filters,f.Topic.length≤2000
theorem ml2:2000≤maxLen:=by unfold maxLen;decide
section
variable {p:Qu} (h:Qr6 p)
include h
end
end
end Go.Av
namespace Go.Av
noncomputable section
end
end Go.Av
namespace Go.Av
noncomputable section
theorem ml7:70000≤maxLen:=by unfold maxLen;decide
section
variable {p:Qu} (h:Qr6 p)
include h
end
end
end Go.Av
namespace Go.Av
noncomputable section
section
variable {p:Qu} (h:Qr6 p)
include h
end
end
end Go.Av
namespace Go.Av
noncomputable section
section
variable {p:Qu} (h:Qr6 p)
include h
end
section
variable {p:Qu} (h:Qr6 p)
include h
end
end
end Go.Av
namespace Go.Av
noncomputable section
theorem Qic (f:Qz):Any (fun N=>Q0a N f):=by
 unfold Q0a
 repeat' first
  | exact TotP.ret trivial
  | refine TotP.cond (fun _=>?_) (fun _=>?_)
theorem Quk (k:Int):Any (fun N=>Q1f N k):=by
 unfold Q1f
 repeat' first
  | exact TotP.ret trivial
  | refine TotP.cond (fun _=>?_) (fun _=>?_)
theorem Qtw (k:Int) (f:Qz):Any (fun N=>Q4k N k f):=by
 have j6:∀ c1 c2 c3 c4 c5 c6,Any (fun N=>Gk N c1 c2 c3 c4 c5 c6):=fun c1 c2 c3 c4 c5 c6=>TotP.ret trivial;have j5:∀ v c1 c2 c3 c4 c5,Any (fun N=>Gt N f v c1 c2 c3 c4 c5):=fun v c1 c2 c3 c4 c5=>TotP.cond (fun _=>j6 _ _ _ _ _ _) (fun _=>j6 _ _ _ _ _ _);have j4:∀ v c1 c2 c3 c4,Any (fun N=>Gs N f v c1 c2 c3 c4):=fun v c1 c2 c3 c4=>TotP.cond (fun _=>j5 _ _ _ _ _ _) (fun _=>j5 _ _ _ _ _ _);have j3:∀ v c1 c2 c3,Any (fun N=>Q02 N f v c1 c2 c3):=fun v c1 c2 c3=>TotP.cond (fun _=>j4 _ _ _ _ _) (fun _=>j4 _ _ _ _ _);have j2:∀ v c1 c2,Any (fun N=>Q05 N f v c1 c2):=fun v c1 c2=>TotP.cond (fun _=>j3 _ _ _ _) (fun _=>j3 _ _ _ _);have j1:∀ v c1,Any (fun N=>Gw N f v c1):=fun v c1=>TotP.cond (fun _=>j2 _ _ _) (fun _=>j2 _ _ _);have j0:∀ c1,Any (fun N=>Q04 N k f c1):=fun c1=>TotP.cond (fun _ => .ret trivial) (fun _=>TotP.bind (Quk k) (fun v _=>TotP.cond (fun _=>j1 _ _) (fun _=>j1 _ _)));exact TotP.bind (Qic f) (fun v _=>TotP.cond (fun _ => .ret trivial) (fun _=>TotP.cond (fun _=>j0 _) (fun _=>j0 _)))
structure Cd (B:Nat) (c:Qh):Prop where
 d:c.do'=1∨c.do'=2
 nm:c.m.Name.length≤70000
 da:c.m.Data.length≤70000
 ou:c.out.length≤B
theorem Cd.mono {B C:Nat} {c:Qh} (h:Cd B c) (hB:B≤C):Cd C c:=⟨h.d,h.nm,h.da,Mo h.ou hB⟩
theorem Cd.zero {B:Nat} {c:Qh} (h:Cd B c):Q4 .eql c.do' 0=false:=by
 have:=h.d;rw [Zv];exact Ab (by omega)
theorem Qlp {v:List UInt8} {n:Nat} (h:v.length=n+1):(!(Nat.beq v.length 0))=true:=by rw [h];rfl
section
variable {B:Nat} {c:Qh} (h:Cd B c) (hB:B≤10000000)
include h hB
theorem Z2a:TotP (fun N=>Yx N c) (fun r=>Cd (B+70000) r.2):=by
 have hz:=h.zero;have hd:=h.d;have hn:=h.nm;have ha:=h.da;have ho:=h.ou;unfold Yx;rw [hz]
 repeat' first
  | exact TotP.ret ⟨hd,by (first | (simp only [Na];omega) | (dsimp only;omega) | omega),by (first | (simp only [Na];omega) | (dsimp only;omega) | omega),by (first | (simp only [Lq,Mf];omega) | (dsimp only;omega) | omega)⟩
  | refine TotP.cond (fun e=>absurd e Lm) (fun _=>?_)
  | refine TotP.bind (Qci _ 2 (by omega) (by omega)) (fun v hv=>TotP.chk (Qlp hv) (TotP.chk (by rw [Lu];omega) ?_))
  | refine TotP.chk (by rw [Lu];omega) ?_
  | refine TotP.cond (fun _=>?_) (fun _=>?_)
theorem Z0a:TotP (fun N=>Z4 N c) (fun r=>Cd (B+70000) r.2):=by
 have hz:=h.zero;have hd:=h.d;have hn:=h.nm;have ha:=h.da;have ho:=h.ou;unfold Z4;rw [hz]
 repeat' first
  | exact TotP.ret ⟨hd,by (first | (simp only [Na];omega) | (dsimp only;omega) | omega),by (first | (simp only [Na];omega) | (dsimp only;omega) | omega),by (first | (simp only [Lq,Mf];omega) | (dsimp only;omega) | omega)⟩
  | refine TotP.cond (fun e=>absurd e Lm) (fun _=>?_)
  | refine TotP.bind (Qci _ 2 (by omega) (by omega)) (fun v hv=>TotP.chk (Qlp hv) (TotP.chk (by rw [Lu];omega) ?_))
  | refine TotP.chk (by rw [Lu];omega) ?_
  | refine TotP.cond (fun _=>?_) (fun _=>?_)
theorem Qus:TotP (fun N=>Y1 N c) (fun r=>Cd (B+70000) r.2):=by
 have hz:=h.zero;have hd:=h.d;have hn:=h.nm;have ha:=h.da;have ho:=h.ou;unfold Y1;refine TotP.bind (Qic _) (fun w _=>?_);rw [hz]
 repeat' first
  | exact TotP.ret ⟨hd,by (first | (simp only [Na];omega) | (dsimp only;omega) | omega),by (first | (simp only [Na];omega) | (dsimp only;omega) | omega),by (first | (simp only [Lq,Mf];omega) | (dsimp only;omega) | omega)⟩
  | refine TotP.cond (fun e=>absurd e Lm) (fun _=>?_)
  | refine TotP.bind (Qci _ 1 (by omega) (by omega)) (fun v hv=>TotP.chk (Qlp hv) (TotP.chk (by rw [Lu];omega) ?_))
  | refine TotP.chk (by rw [Lu];omega) ?_
  | refine TotP.cond (fun _=>?_) (fun _=>?_)
theorem Qwg:TotP (fun N=>X8 N c) (fun r=>Cd (B+70000) r.2):=by
 have hz:=h.zero;have hd:=h.d;have hn:=h.nm;have ha:=h.da;have ho:=h.ou;unfold X8;rw [hz];refine TotP.cond (fun e=>absurd e Lm) (fun _=>?_)
 refine TotP.cond (fun _=>?_) (fun _ => .ret ⟨hd,by (first | (simp only [Na];omega) | (dsimp only;omega) | omega),by (first | (simp only [Na];omega) | (dsimp only;omega) | omega),by (first | (simp only [Lq,Mf];omega) | (dsimp only;omega) | omega)⟩)
 refine TotP.cond (fun _ => .ret ⟨hd,by (first | (simp only [Na];omega) | (dsimp only;omega) | omega),by (first | (simp only [Na];omega) | (dsimp only;omega) | omega),by (first | (simp only [Lq,Mf];omega) | (dsimp only;omega) | omega)⟩) (fun _=>?_)
 exact TotP.chk (by rw [Lu];omega) (.ret ⟨hd,by (first | (simp only [Na];omega) | (dsimp only;omega) | omega),by (first | (simp only [Na];omega) | (dsimp only;omega) | omega),by (first | (simp only [Lq,Mf];omega) | (dsimp only;omega) | omega)⟩)
end
section
variable {B:Nat} {c:Qh} (h:Cd B c) (hB:B≤1000000)
include h hB
attribute [local irreducible] Yx Z4 Y1 X8
end
section
variable {B:Nat} {c:Qh} (h:Cd B c) (hB:B≤1000)
include h hB
attribute [local irreducible] Yx Z4 Y1 X8
end
structure OkM (m:U2):Prop where
 nm:m.Name.length≤70000
 da:m.Data.length≤70000
section
variable {m:U2} (h:OkM m)
include h
theorem cd0 (d:Int) (hd:d=1∨d=2):Cd 0 ⟨d,m,[],false⟩:=⟨hd,h.nm,h.da,Li 0⟩
end
theorem Qk4 (k r:Int):TotP (fun N=>V6 N k r) (fun x=>x.1.length≤100):=by
 have h1:Any (fun N=>Ga N k):=by
  unfold Ga
  repeat' first
   | exact TotP.ret trivial
   | refine TotP.cond (fun _=>?_) (fun _=>?_)
 unfold V6;refine TotP.bind h1 (fun _ _=>?_)
 repeat' first
  | exact TotP.ret (by simp only [Na,Lq];omega)
  | refine TotP.bind (Q7w _ _) (fun v hv=>?_)
  | refine TotP.chk (by rw [Lu];(first | omega | (simp only [Lq];omega))) ?_
  | refine TotP.cond (fun _=>?_) (fun _=>?_)
section
variable {m:U2} (h:OkM m)
include h
end
structure Z1m (d:Qq):Prop where
 hops:d.Hops.length≤30
 node:∀ x∈d.Hops,x.Node.length≤300
 msg:OkM d.Msg
section
variable {d:Qq} (h:Z1m d) (l:Xm)
include h
theorem Qov (v:List UInt8×Int) (hv:v.1.length≤800000):Any (fun N=>W5 N d l v N [] 0):=by
 have hc:=h.hops;refine Q4z (L:=fun N n (q:List UInt8×Int)=>W5 N d l v n q.1 q.2) (Q:=fun _=>True) (fun q=>∃ i:Nat,q.2=(i:Int)∧i≤d.Hops.length∧q.1.length≤i * 400) (fun q=>d.Hops.length - q.2.toNat) ?_ ([],0) ⟨0,rfl,by omega,by simp⟩
 rintro ⟨o,s⟩ ⟨i,hs,hi,hl⟩
 simp only at hs hl
 subst hs;show Stp _ _ _ (fun N n=>cond (Q4 .lss (i:Int) ((Q8 Vd.cells d.Hops).length:Int)) _ _);rw [Q5,Ql];dsimp only;refine Stp.cond (fun hx=>?_) (fun _=>Stp.cond (fun _=>Stp.ret trivial) (fun _=>Stp.chk (by rw [Lu];omega) (Stp.ret trivial)));have hx:=Aa hx
 have hi:i<d.Hops.length:=by omega
 refine Stp.idx (Qs hi) ?_;have hf:=h.node _ (Ly hi);generalize d.Hops[i]=y at hf
 have e1:wrap .i64 ((i:Int)+1)=((i+1:Nat):Int):=by rw [w64 _ (by omega)];omega
 refine Stp.bind (Qkp y hf) (fun w hw=>?_);refine Stp.chk (by rw [Lu];omega) ?_;rw [e1];exact Stp.go (L:=fun N n (q:List UInt8×Int)=>W5 N d l v n q.1 q.2) (o++w,((i+1:Nat):Int)) ⟨⟨i+1,rfl,by omega,by simp only [Lq];omega⟩,by simp only [Lw];omega⟩
theorem Qfo (v:List UInt8×Int) (hv:v.1.length≤800000):Any (fun N=>Y9 N d l v N [] 0):=by
 have hc:=h.hops;refine Q4z (L:=fun N n (q:List UInt8×Int)=>Y9 N d l v n q.1 q.2) (Q:=fun _=>True) (fun q=>∃ i:Nat,q.2=(i:Int)∧i≤d.Hops.length∧q.1.length≤i * 400) (fun q=>d.Hops.length - q.2.toNat) ?_ ([],0) ⟨0,rfl,by omega,by simp⟩
 rintro ⟨o,s⟩ ⟨i,hs,hi,hl⟩
 simp only at hs hl
 subst hs;show Stp _ _ _ (fun N n=>cond (Q4 .lss (i:Int) ((Q8 Vd.cells d.Hops).length:Int)) _ _);rw [Q5,Ql];dsimp only;refine Stp.cond (fun hx=>?_) (fun _=>Stp.cond (fun _=>Stp.ret trivial) (fun _=>Stp.chk (by rw [Lu];omega) (Stp.ret trivial)));have hx:=Aa hx
 have hi:i<d.Hops.length:=by omega
 refine Stp.idx (Qs hi) ?_;have hf:=h.node _ (Ly hi);generalize d.Hops[i]=y at hf
 have e1:wrap .i64 ((i:Int)+1)=((i+1:Nat):Int):=by rw [w64 _ (by omega)];omega
 refine Stp.bind (Qkp y hf) (fun w hw=>?_);refine Stp.chk (by rw [Lu];omega) ?_;rw [e1];exact Stp.go (L:=fun N n (q:List UInt8×Int)=>Y9 N d l v n q.1 q.2) (o++w,((i+1:Nat):Int)) ⟨⟨i+1,rfl,by omega,by simp only [Lq];omega⟩,by simp only [Lw];omega⟩
end
end
end Go.Av
namespace Go.Av
noncomputable section
theorem Qq1 (p:Qu) (h1:p.Filters.length≤maxLen) (h2:p.Props.length≤maxLen) (h3:p.Will.Props.length≤maxLen):TotP (fun N=>V5 N p) (fun v=>v=true→Qr6 p):=by
 have hm:=Q3u
 have h30:300≤maxLen:=by unfold maxLen;decide
 have tail:(p.Filters.length≤30→∀ f∈p.Filters,f.Topic.length≤2000)→TotP (fun N=>cond (Q4 .leq (p.Topic.length:Int) 2000) (cond (Q4 .leq (p.Payload.length:Int) 2000) (cond (Q4 .leq (p.Client.length:Int) 2000) (cond (Q4 .leq (p.User.length:Int) 2000) (cond (Q4 .leq (p.Pass.length:Int) 2000)
  (cond (Q4 .leq (p.Will.Topic.length:Int) 2000) (cond (Q4 .leq (p.Will.Payload.length:Int) 2000) (cond (Q4 .leq ((Q8 (cI .i64) p.Codes).length:Int) 30) (cond (Q4 .leq (p.Filters.length:Int) 30)
  ((Zb N p.Props).bind fun v26=>cond v26 ((Zb N p.Will.Props).bind fun v29=>some v29) (some false)) (some false)) (some false)) (some false)) (some false)) (some false)) (some false)) (some false)) (some false)) (some false)) (fun v=>v=true→Qr6 p):=by
  intro hf;rw [Q5]
  iterate 9 refine TotP.cond (fun _=>?_) (fun _ => .ret (fun h=>nomatch h))
  rename_i a1 a2 a3 a4 a5 a6 a7 a8 a9;rw [Vv] at a1 a2 a3 a4 a5 a6 a7 a8 a9;have a1:=Aa a1;have a2:=Aa a2;have a3:=Aa a3;have a4:=Aa a4;have a5:=Aa a5;have a6:=Aa a6;have a7:=Aa a7;have a8:=Aa a8;have a9:=Aa a9;refine TotP.bind (Qdg _ h2) (fun v hv=>TotP.cond (fun hv1=>?_) (fun _ => .ret (fun h=>nomatch h)));refine TotP.bind (Qdg _ h3) (fun w hw => .ret (fun hw1=>?_));have g1:=hv hv1;have g2:=hw hw1;exact ⟨⟨by omega,by omega,by omega,by omega⟩,⟨g1.1,fun x hx=>Mo (g1.2 x hx).1 h30⟩,⟨g2.1,fun x hx=>Mo (g2.2 x hx).1 h30⟩,by omega,by omega,by omega,by omega,by omega,by omega,by omega,by omega,by omega,hf (by omega)⟩
 refine Q2s (L:=fun N n s=>Zw N p n s) p.Filters.length (fun i=>∀ j (h:j<p.Filters.length),j<i→(p.Filters[j]).Topic.length≤2000) (fun i hi hj=>?_) (fun hj=>?_) (fun j _ hj=>by omega)
 ·show Stp _ _ _ (fun N n=>cond (Q4 .lss (i:Int) ((Q8 Z0.cells p.Filters).length:Int)) _ _);rw [Q5,Ql];refine Stp.cond (fun _=>?_) (fun h=>by have:=Ac h;omega);refine Stp.cond (fun _=>?_) (fun h=>Stp.fin (tail (fun hc=>?_)))
  ·refine Stp.idx (Qs hi) ?_;rw [Xb];refine Stp.cond (fun _=>Stp.ret (fun h=>nomatch h)) (fun h1=>?_);have h1:=Ac h1;rw [w64 _ (by omega)];refine Stp.go (L:=fun N n s=>Zw N p n s) _ ⟨by omega,fun j hj' hji=>?_⟩
   by_cases e:j=i
   ·subst e;omega
   exact hj j hj' (by omega)
  rw [Ql] at h;have:=Ac h;omega
 show Stp _ _ _ (fun N n=>cond (Q4 .lss (p.Filters.length:Int) ((Q8 Z0.cells p.Filters).length:Int)) _ _);rw [Q5,Ql];refine Stp.cond (fun h=>by have:=Aa h;omega) (fun _=>Stp.fin (tail (fun _ f hf=>?_)));obtain ⟨j,hj',rfl⟩:=Mr hf;exact hj j hj' hj'
theorem Qwh (d:Qq):TotP (fun N=>Wi N d) (fun v=>v=true→Z1m d):=by
 refine TotP.cond (fun _ => .ret (fun h=>nomatch h)) (fun h0=>?_);rw [Q5,Xb] at h0;have h0:=Ac h0;refine TotP.bind (V:=fun v=>v=true→OkM d.Msg) ?_ (fun v hv=>?_)
 ·show TotP (fun N=>cond (Q4 .leq (d.Msg.Name.length:Int) 70000) _ _) _;rw [Vv,Vv];refine TotP.cond (fun h1 => .ret (fun h2=>?_)) (fun _ => .ret (fun h=>nomatch h));have h1:=Aa h1;have h2:=Aa h2;exact ⟨by omega,by omega⟩
 refine TotP.cond (fun _ => .ret (fun h=>nomatch h)) (fun hn=>?_);have hM:=hv (by simpa using hn);refine Q2s (L:=fun N n s=>Zm N d n s) d.Hops.length (fun i=>∀ j (h:j<d.Hops.length),j<i→(d.Hops[j]).Node.length≤300) (fun i hi hj=>?_) (fun hj=>?_) (fun j _ hj=>by omega)
 ·show Stp _ _ _ (fun N n=>cond (Q4 .lss (i:Int) ((Q8 Vd.cells d.Hops).length:Int)) _ _);rw [Q5,Ql];refine Stp.cond (fun _=>?_) (fun h=>by have:=Ac h;omega);refine Stp.idx (Qs hi) ?_;rw [Xb];refine Stp.cond (fun _=>Stp.ret (fun h=>nomatch h)) (fun h1=>?_);have h1:=Ac h1;rw [w64 _ (by omega)];refine Stp.go (L:=fun N n s=>Zm N d n s) _ ⟨by omega,fun j hj' hji=>?_⟩
  by_cases e:j=i
  ·subst e;omega
  exact hj j hj' (by omega)
 show Stp _ _ _ (fun N n=>cond (Q4 .lss (d.Hops.length:Int) ((Q8 Vd.cells d.Hops).length:Int)) _ _);rw [Q5,Ql];refine Stp.cond (fun h=>by have:=Aa h;omega) (fun _=>Stp.ret (fun _=>⟨by omega,fun x hx=>?_,hM⟩));obtain ⟨j,hj',rfl⟩:=Mr hx;exact hj j hj' hj'
theorem Qtt (f:Zn) (hv:∀ x∈f.Values,OkV x):TotP (fun N=>Y5 N f) (fun v=>v=true→FB f):=by
 obtain ⟨r,_,N0,h⟩:=Qpp f;refine ⟨r,fun hr=>?_,N0,h⟩;obtain ⟨b,h1,h2⟩:=Qlf (N:=max N0 800000000) (by omega) f;rw [show Y5 (max N0 800000000) f=some r from h _ (by omega)] at h1;have:=h2 ((Am h1).symm.trans hr);exact Qto this.1 this.2.2 hv
structure LE (e:Qf):Prop where
 topic:e.Topic.length≤2000
 payload:e.Payload.length≤2000
 props:OkP e.Props
 pk:Qr6 e.Packet
 dg:Z1m ⟨e.Hops,e.Msg⟩
 fb:FB e.Frame
theorem Q7b (N:Nat) (s:List Qk) (h:s.length≤100000):Q16 N s=some s:=by
 unfold Q16
 cases s with
 | nil=>rfl
 | cons x s=>
  have e:Nat.beq (x::s).length 0=false:=rfl
  have e2:Nat.ble ((0+(x::s).length+4096) * 48) 17592186044416=true:=by rw [Lu];omega
  rw [e,e2];rfl
theorem Ql7 (N:Nat) (s:List Vd) (h:s.length≤100000):Q13 N s=some s:=by
 unfold Q13
 cases s with
 | nil=>rfl
 | cons x s=>
  have e:Nat.beq (x::s).length 0=false:=rfl
  have e2:Nat.ble ((0+(x::s).length+4096) * 24) 17592186044416=true:=by rw [Lu];omega
  rw [e,e2];rfl
theorem Qlx (N:Nat) (s:List Int) (h:s.length≤100000):Q6a N s=some s:=by
 unfold Q6a
 cases s with
 | nil=>rfl
 | cons x s=>
  have e:Nat.beq (x::s).length 0=false:=rfl
  have e2:Nat.ble ((0+(x::s).length+4096) * 8) 17592186044416=true:=by rw [Lu];omega
  rw [e,e2];rfl
theorem Qf6 (N:Nat) (s:List Z0) (h:s.length≤100000):Q2n N s=some s:=by
 unfold Q2n
 cases s with
 | nil=>rfl
 | cons x s=>
  have e:Nat.beq (x::s).length 0=false:=rfl
  have e2:Nat.ble ((0+(x::s).length+4096) * 40) 17592186044416=true:=by rw [Lu];omega
  rw [e,e2];rfl
theorem Qla (N:Nat) (p:Qu) (h:Qr6 p):Q4a N p=some p:=by
 have h1:=h.codes;have h2:=h.filters.1;have h3:=h.props.len;have h4:=h.wprops.len;unfold Q4a;rw [Qlx N _ (by omega),Qf6 N _ (by omega),Q7b N _ (by omega),Q7b N _ (by omega)];rfl
end
end Go.Av
namespace Go.Av
noncomputable section
structure Z8j (a:Qf):Prop where
 props:a.Props.length≤maxLen
 hops:a.Hops.length≤maxLen
 pk:Qwt a.Packet
 fr:Q0.szs a.Frame.Values<700000000
structure PubT (e:Qf) (c t b:Bool):Prop where
 known:e.Proto=1∨e.Proto=2∨e.Proto=3∨e.Proto=4
 kind:e.Kind=1
 qos:(0≤e.QoS∧e.QoS≤2)∨(e.Proto=3∧e.QoS = -1)
 id:0≤e.ID∧e.ID≤65535
 cid:c=decide (e.ID≠0)
 dup:e.Dup=true→c=true∨e.Proto=3
 props:0<e.Props.length→e.Proto=2
 ty:e.Proto=3→t=true
 ty2:e.Proto≠3→e.Type'=0∧e.Hops.length=0
 ch:0≤e.Channel∧e.Channel≤65535
 ch4:e.Channel≠0→e.Proto=4
 bare:b=true
theorem Qc8 {b:Bool} {x y:Option Int} {r:Option Int} (h1:b=true→x=r) (h2:b=false→y=r):cond b x y=r:=by
 cases b with
 | true=>exact h1 rfl
 | false=>exact h2 rfl
section
variable {N:Nat} {e:Qf} {t b:Bool} {v:Int} (hn:X4 N e.Topic=some true) (ht:Jp N e=some t) (hb:Jo N e=some b) (hv:W6 N 3 e.Props=some v)
include hn ht hb hv
end
end
end Go.Av
namespace Go.Av
noncomputable section
section
variable {R S T A:Type}
theorem TotP.succ {f g:Nat→Option R} {Q:R→Prop} (e:∀ N,f (N+1)=g N) (h:TotP g Q):TotP f Q:=by
 obtain ⟨r,hr,N0,hN⟩:=h;refine ⟨r,hr,N0+1,fun N h=>?_⟩;obtain ⟨M,rfl⟩:∃ M,N=M+1:=⟨N - 1,by omega⟩;rw [e];exact hN M (by omega)
end
theorem szs_app (l:List Q0) (v:Q0):Q0.szs (l ++ [v])=Q0.szs l+v.sz:=by
 induction l with
 | nil=>simp [Q0.szs]
 | cons w l ih=>simp only [Bc,Q0.szs,ih];omega
end
end Go.Av
namespace Go.Av
noncomputable section
end
end Go.Av
namespace Go.Av
noncomputable section
def sh1 (e:Qf):Qf:=⟨e.Proto,e.Kind,[],[],0,false,false,0,[],0,[],0,e.Packet,(⟨0,(⟨false,0,false,false,false,0⟩:Qz),0,0,0,false,0,0,0,[],[]⟩:U2),(⟨0,0,[],[]⟩:Zn)⟩
def sh3 (e:Qf):Qf:=⟨e.Proto,e.Kind,[],[],0,false,false,0,[],0,e.Hops,0,(⟨0,false,false,0,0,[],[],false,0,[],false,[],false,[],false,(⟨[],[],0,false,[]⟩:J2),false,0,[],[],[]⟩:Qu),e.Msg,(⟨0,0,[],[]⟩:Zn)⟩
def sh4 (e:Qf):Qf:=⟨e.Proto,e.Kind,[],[],0,false,false,0,[],0,[],0,(⟨0,false,false,0,0,[],[],false,0,[],false,[],false,[],false,(⟨[],[],0,false,[]⟩:J2),false,0,[],[],[]⟩:Qu),(⟨0,(⟨false,0,false,false,false,0⟩:Qz),0,0,0,false,0,0,0,[],[]⟩:U2),e.Frame⟩
structure Oth (e:Qf) (c:Int):Prop where
 a:e.Proto=1∨e.Proto=2→(c=0→sh1 e=e)∧(sh1 e≠e→c=2)∧(e.Packet.Kind=0→c≠0)
 b:e.Proto=3→(c=0→sh3 e=e)∧(sh3 e≠e→c=2)
 d:e.Proto=4→(c=0→sh4 e=e)∧(sh4 e≠e→c=2)
 f:c=0→e.Proto=1∨e.Proto=2∨e.Proto=3∨e.Proto=4
structure At (e:Qf) (l:Xm) (t b r:Bool) (v:Int):Prop where
 t:Tot (fun N=>Jp N e) t
 b:Tot (fun N=>Jo N e) b
 v:Tot (fun N=>W6 N 3 e.Props) v
 r:Tot (fun N=>Q3c N l) r
def cq (e:Qf):Bool:=cond (decide (e.QoS=1)) true (decide (e.QoS=2))
structure Ck (e:Qf) (l:Xm) (t b r:Bool) (v c:Int):Prop where
 zero:c=0→r=true
 pub0:e.Kind=1→c=0→Q09 e.Topic=true∧v=0∧PubT e (cq e) t b∧(e.Payload.length:Int)≤l.MaxPacket
 pub1:e.Kind=1→r=true→Q09 e.Topic=true→v=0→PubT e (cq e) t b→(e.Payload.length:Int)≤l.MaxPacket→c=0
 pub2:e.Kind=1→r=true→Q09 e.Topic=true→¬ PubT e (cq e) t b→c=2
 oth:e.Kind=2→r=true→Oth e c
 no:c=0→e.Kind=1∨e.Kind=2
theorem Qql (N:Nat) (e:Qf):Yj N e=Wj N e (cq e):=by
 unfold Yj cq;rw [Zv,Zv];cases decide (e.QoS=1)<;>rfl
end
end Go.Av
namespace Go.Av
noncomputable section
theorem Q7c (a b:List Qk) (ha:a.length≤maxLen):TotP (fun N=>Xs N a b) (fun v=>v=true↔a=b):=by
 unfold Xs;rw [Q5,Q5,Yc];refine TotP.cond (fun h => .ret ⟨fun h=>(by cases h),fun e=>?_⟩) (fun h=>?_)
 ·have:=Aa h;subst e;exact absurd rfl this
 have h:=Ac h
 have hab:a.length=b.length:=by omega
 refine Qcy (L:=fun N n i=>Xo N a b n i) (eq:=fun x y=>((x.ID:Int) == y.ID)&&(((x.N':Int) == y.N')&&(((x.Text:List UInt8) == y.Text)&&(((x.Value:List UInt8) == y.Value)&&true)))) (fun _ _=>Qyr) hab ha (fun N n i h h'=>?_) (fun N n=>?_)
 ·show cond (Q4 .lss (i:Int) ((Q8 Qk.cells a).length:Int)) ((idx a (i:Int)).bind _) _=_;rw [Q5,Ql,Ad (by omega),Qs h,Qs h'];rfl
 show cond (Q4 .lss (a.length:Int) ((Q8 Qk.cells a).length:Int)) _ _=_;rw [Q5,Ql,Ab (by omega)];rfl
theorem Qm1 (a b:List Vd) (ha:a.length≤maxLen):TotP (fun N=>U0 N a b) (fun v=>v=true↔a=b):=by
 unfold U0;rw [Q5,Q5,Yc];refine TotP.cond (fun h => .ret ⟨fun h=>(by cases h),fun e=>?_⟩) (fun h=>?_)
 ·have:=Aa h;subst e;exact absurd rfl this
 have h:=Ac h
 have hab:a.length=b.length:=by omega
 refine Qcy (L:=fun N n i=>Xn N a b n i) (eq:=fun x y=>((x.Radius:Int) == y.Radius)&&(((x.Node:List UInt8) == y.Node)&&true)) (fun _ _=>Zl7) hab ha (fun N n i h h'=>?_) (fun N n=>?_)
 ·show cond (Q4 .lss (i:Int) ((Q8 Vd.cells a).length:Int)) ((idx a (i:Int)).bind _) _=_;rw [Q5,Ql,Ad (by omega),Qs h,Qs h'];rfl
 show cond (Q4 .lss (a.length:Int) ((Q8 Vd.cells a).length:Int)) _ _=_;rw [Q5,Ql,Ab (by omega)];rfl
theorem Qf1 (a b:List Z0) (ha:a.length≤maxLen):TotP (fun N=>Wk N a b) (fun v=>v=true↔a=b):=by
 unfold Wk;rw [Q5,Q5,Yc];refine TotP.cond (fun h => .ret ⟨fun h=>(by cases h),fun e=>?_⟩) (fun h=>?_)
 ·have:=Aa h;subst e;exact absurd rfl this
 have h:=Ac h
 have hab:a.length=b.length:=by omega
 refine Qcy (L:=fun N n i=>Ys N a b n i) (eq:=fun x y=>((x.Topic:List UInt8) == y.Topic)&&(((x.QoS:Int) == y.QoS)&&(((x.NoLocal:Bool) == y.NoLocal)&&(((x.AsPublished:Bool) == y.AsPublished)&&(((x.Handling:Int) == y.Handling)&&true))))) (fun _ _=>Qr5) hab ha (fun N n i h h'=>?_) (fun N n=>?_)
 ·show cond (Q4 .lss (i:Int) ((Q8 Z0.cells a).length:Int)) ((idx a (i:Int)).bind _) _=_;rw [Q5,Ql,Ad (by omega),Qs h,Qs h'];rfl
 show cond (Q4 .lss (a.length:Int) ((Q8 Z0.cells a).length:Int)) _ _=_;rw [Q5,Ql,Ab (by omega)];rfl
theorem Qkt (a b:List Int) (ha:a.length≤maxLen):TotP (fun N=>Vz N a b) (fun v=>v=true↔a=b):=by
 unfold Vz;rw [Q5,Q5,Yc];refine TotP.cond (fun h => .ret ⟨fun h=>(by cases h),fun e=>?_⟩) (fun h=>?_)
 ·have:=Aa h;subst e;exact absurd rfl this
 have h:=Ac h
 have hab:a.length=b.length:=by omega
 refine Qcy (L:=fun N n i=>Xq N a b n i) (eq:=fun x y=>Q4 .eql x y) (fun x y=>by rw [Zv];exact decide_eq_true_iff) hab ha (fun N n i h h'=>?_) (fun N n=>?_)
 ·show cond (Q4 .lss (i:Int) ((Q8 (cI .i64) a).length:Int)) ((idx a (i:Int)).bind _) _=_;rw [Q5,Ql,Ad (by omega),Qs h,Qs h'];simp only [Lh,Ai,Yc,Zv,decide_not]
 show cond (Q4 .lss (a.length:Int) ((Q8 (cI .i64) a).length:Int)) _ _=_;rw [Q5,Ql,Ab (by omega)];rfl
theorem Qbd (a b:Qu) (h:Qwt a):TotP (fun N=>Wq N a b) (fun v=>v=true↔a=b):=by
 unfold Wq;simp only [Yc,Q6i];refine TotP.cond (fun g => .ret ⟨fun e=>absurd e Lm,fun e=>absurd g (by rw [e];simp)⟩) (fun g=>?_)
 have e0:a.Will.Topic=b.Will.Topic:=by simpa using g
 clear g;refine TotP.cond (fun g => .ret ⟨fun e=>absurd e Lm,fun e=>absurd g (by rw [e];simp)⟩) (fun g=>?_)
 have e1:a.Will.Payload=b.Will.Payload:=by simpa using g
 clear g;refine TotP.cond (fun g => .ret ⟨fun e=>absurd e Lm,fun e=>absurd g (by rw [e];simp)⟩) (fun g=>?_)
 have e2:a.Will.QoS=b.Will.QoS:=by simpa using g
 clear g;refine TotP.cond (fun g => .ret ⟨fun e=>absurd e Lm,fun e=>absurd g (by rw [e];simp)⟩) (fun g=>?_)
 have e3:a.Will.Retain=b.Will.Retain:=by simpa using g
 clear g;refine TotP.bind (Q7c _ _ h.wprops) (fun v hv=>?_);refine TotP.cond (fun g => .ret ⟨fun e=>absurd e Lm,fun e=>absurd (hv.2 (by rw [e])) (by simpa using g)⟩) (fun g=>?_);have e4:a.Will.Props=b.Will.Props:=hv.1 (by simpa using g);clear g hv;refine TotP.cond (fun g => .ret ⟨fun e=>absurd e Lm,fun e=>absurd g (by rw [e];simp)⟩) (fun g=>?_)
 have e5:a.Kind=b.Kind:=by simpa using g
 clear g;refine TotP.cond (fun g => .ret ⟨fun e=>absurd e Lm,fun e=>absurd g (by rw [e];simp)⟩) (fun g=>?_)
 have e6:a.Dup=b.Dup:=by simpa using g
 clear g;refine TotP.cond (fun g => .ret ⟨fun e=>absurd e Lm,fun e=>absurd g (by rw [e];simp)⟩) (fun g=>?_)
 have e7:a.Retain=b.Retain:=by simpa using g
 clear g;refine TotP.cond (fun g => .ret ⟨fun e=>absurd e Lm,fun e=>absurd g (by rw [e];simp)⟩) (fun g=>?_)
 have e8:a.QoS=b.QoS:=by simpa using g
 clear g;refine TotP.cond (fun g => .ret ⟨fun e=>absurd e Lm,fun e=>absurd g (by rw [e];simp)⟩) (fun g=>?_)
 have e9:a.ID=b.ID:=by simpa using g
 clear g;refine TotP.cond (fun g => .ret ⟨fun e=>absurd e Lm,fun e=>absurd g (by rw [e];simp)⟩) (fun g=>?_)
 have e10:a.Topic=b.Topic:=by simpa using g
 clear g;refine TotP.cond (fun g => .ret ⟨fun e=>absurd e Lm,fun e=>absurd g (by rw [e];simp)⟩) (fun g=>?_)
 have e11:a.Payload=b.Payload:=by simpa using g
 clear g;refine TotP.cond (fun g => .ret ⟨fun e=>absurd e Lm,fun e=>absurd g (by rw [e];simp)⟩) (fun g=>?_)
 have e12:a.Clean=b.Clean:=by simpa using g
 clear g;refine TotP.cond (fun g => .ret ⟨fun e=>absurd e Lm,fun e=>absurd g (by rw [e];simp)⟩) (fun g=>?_)
 have e13:a.KeepAlive=b.KeepAlive:=by simpa using g
 clear g;refine TotP.cond (fun g => .ret ⟨fun e=>absurd e Lm,fun e=>absurd g (by rw [e];simp)⟩) (fun g=>?_)
 have e14:a.Client=b.Client:=by simpa using g
 clear g;refine TotP.cond (fun g => .ret ⟨fun e=>absurd e Lm,fun e=>absurd g (by rw [e];simp)⟩) (fun g=>?_)
 have e15:a.HasUser=b.HasUser:=by simpa using g
 clear g;refine TotP.cond (fun g => .ret ⟨fun e=>absurd e Lm,fun e=>absurd g (by rw [e];simp)⟩) (fun g=>?_)
 have e16:a.User=b.User:=by simpa using g
 clear g;refine TotP.cond (fun g => .ret ⟨fun e=>absurd e Lm,fun e=>absurd g (by rw [e];simp)⟩) (fun g=>?_)
 have e17:a.HasPass=b.HasPass:=by simpa using g
 clear g;refine TotP.cond (fun g => .ret ⟨fun e=>absurd e Lm,fun e=>absurd g (by rw [e];simp)⟩) (fun g=>?_)
 have e18:a.Pass=b.Pass:=by simpa using g
 clear g;refine TotP.cond (fun g => .ret ⟨fun e=>absurd e Lm,fun e=>absurd g (by rw [e];simp)⟩) (fun g=>?_)
 have e19:a.HasWill=b.HasWill:=by simpa using g
 clear g;refine TotP.cond (fun g => .ret ⟨fun e=>absurd e Lm,fun e=>absurd g (by rw [e];simp)⟩) (fun g=>?_)
 have e20:a.Session=b.Session:=by simpa using g
 clear g;refine TotP.cond (fun g => .ret ⟨fun e=>absurd e Lm,fun e=>absurd g (by rw [e];simp)⟩) (fun g=>?_)
 have e21:a.Code=b.Code:=by simpa using g
 clear g;refine TotP.bind (Qkt _ _ h.codes) (fun v hv=>?_);refine TotP.cond (fun g=>?_) (fun g => .ret ⟨fun e=>absurd e Lm,fun e=>absurd (hv.2 (by rw [e])) (by rw [g];decide)⟩);have e22:a.Codes=b.Codes:=hv.1 g;clear g hv;refine TotP.bind (Qf1 _ _ h.filters) (fun v hv=>?_);refine TotP.cond (fun g=>?_) (fun g => .ret ⟨fun e=>absurd e Lm,fun e=>absurd (hv.2 (by rw [e])) (by rw [g];decide)⟩);have e23:a.Filters=b.Filters:=hv.1 g;clear g hv;refine TotP.bind (Q7c _ _ h.props) (fun v hv => .ret ⟨fun g=>?_,fun e=>hv.2 (by rw [e])⟩);have el:a.Props=b.Props:=hv.1 g;obtain ⟨a0,a1,a2,a3,a4,a5,a6,a7,a8,a9,a10,a11,a12,a13,a14,⟨w0,w1,w2,w3,w4⟩,a16,a17,a18,a19,a20⟩:=a;obtain ⟨b0,b1,b2,b3,b4,b5,b6,b7,b8,b9,b10,b11,b12,b13,b14,⟨x0,x1,x2,x3,x4⟩,b16,b17,b18,b19,b20⟩:=b
 simp_all
theorem Qo3 (x y:U2):(((x.Type':Int) == y.Type')&&(((x.Flags.Dup:Bool) == y.Flags.Dup)&&(((x.Flags.QoS:Int) == y.Flags.QoS)&&(((x.Flags.Retain:Bool) == y.Flags.Retain)&&(((x.Flags.Will:Bool) == y.Flags.Will)&&(((x.Flags.Clean:Bool) == y.Flags.Clean)&&(((x.Flags.Type':Int) == y.Flags.Type')&&(((x.Gateway:Int) == y.Gateway)&&(((x.Radius:Int) == y.Radius)&&(((x.Time:Int) == y.Time)&&(((x.Timed:Bool) == y.Timed)&&(((x.TopicID:Int) == y.TopicID)&&(((x.MsgID:Int) == y.MsgID)&&(((x.Code:Int) == y.Code)&&(((x.Name:List UInt8) == y.Name)&&(((x.Data:List UInt8) == y.Data)&&true))))))))))))))))=true↔x=y:=by
 obtain ⟨a,⟨b,c,d,e,f,g⟩,h,i,j,k,l,m,n,o,p⟩:=x;obtain ⟨a',⟨b',c',d',e',f',g'⟩,h',i',j',k',l',m',n',o',p'⟩:=y;simp [and_assoc]
theorem Qhl (a b:Qf) (h:Z8j a):TotP (fun N=>X3 N a b) (fun v=>v=true↔a=b):=by
 unfold X3;simp only [Zv,Qcb];refine TotP.cond (fun g=>?_) (fun g => .ret ⟨fun e=>absurd e Lm,fun e=>absurd g (by rw [e];simp)⟩)
 have e24:a.Proto=b.Proto:=by simpa using g
 clear g;refine TotP.cond (fun g=>?_) (fun g => .ret ⟨fun e=>absurd e Lm,fun e=>absurd g (by rw [e];simp)⟩)
 have e25:a.Kind=b.Kind:=by simpa using g
 clear g;refine TotP.cond (fun g=>?_) (fun g => .ret ⟨fun e=>absurd e Lm,fun e=>absurd g (by rw [e];simp)⟩)
 have e26:a.Topic=b.Topic:=by simpa using g
 clear g;refine TotP.cond (fun g=>?_) (fun g => .ret ⟨fun e=>absurd e Lm,fun e=>absurd g (by rw [e];simp)⟩)
 have e27:a.Payload=b.Payload:=by simpa using g
 clear g;refine TotP.cond (fun g=>?_) (fun g => .ret ⟨fun e=>absurd e Lm,fun e=>absurd g (by rw [e];simp)⟩)
 have e28:a.QoS=b.QoS:=by simpa using g
 clear g;refine TotP.cond (fun g=>?_) (fun g => .ret ⟨fun e=>absurd e Lm,fun e=>absurd g (by rw [e];simp)⟩)
 have e29:a.Retain=b.Retain:=by simpa using g
 clear g;refine TotP.cond (fun g=>?_) (fun g => .ret ⟨fun e=>absurd e Lm,fun e=>absurd g (by rw [e];simp)⟩)
 have e30:a.Dup=b.Dup:=by simpa using g
 clear g;refine TotP.cond (fun g=>?_) (fun g => .ret ⟨fun e=>absurd e Lm,fun e=>absurd g (by rw [e];simp)⟩)
 have e31:a.ID=b.ID:=by simpa using g
 clear g;refine TotP.bind (Q7c _ _ h.props) (fun v hv=>?_);refine TotP.cond (fun g=>?_) (fun g => .ret ⟨fun e=>absurd e Lm,fun e=>absurd (hv.2 (by rw [e])) (by rw [g];decide)⟩);have e32:a.Props=b.Props:=hv.1 g;clear g hv;refine TotP.cond (fun g=>?_) (fun g => .ret ⟨fun e=>absurd e Lm,fun e=>absurd g (by rw [e];simp)⟩)
 have e33:a.Type'=b.Type':=by simpa using g
 clear g;refine TotP.bind (Qm1 _ _ h.hops) (fun v hv=>?_);refine TotP.cond (fun g=>?_) (fun g => .ret ⟨fun e=>absurd e Lm,fun e=>absurd (hv.2 (by rw [e])) (by rw [g];decide)⟩);have e34:a.Hops=b.Hops:=hv.1 g;clear g hv;refine TotP.cond (fun g=>?_) (fun g => .ret ⟨fun e=>absurd e Lm,fun e=>absurd g (by rw [e];simp)⟩)
 have e35:a.Channel=b.Channel:=by simpa using g
 clear g;refine TotP.bind (Qbd _ _ h.pk) (fun v hv=>?_);refine TotP.cond (fun g=>?_) (fun g => .ret ⟨fun e=>absurd e Lm,fun e=>absurd (hv.2 (by rw [e])) (by rw [g];decide)⟩);have e36:a.Packet=b.Packet:=hv.1 g;clear g hv;refine TotP.cond (fun g=>?_) (fun g => .ret ⟨fun e=>absurd e Lm,fun e=>absurd ((Qo3 a.Msg b.Msg).2 (by rw [e])) (by rw [g];decide)⟩);have e37:a.Msg=b.Msg:=(Qo3 _ _).1 g;clear g;refine TotP.bind (V:=fun v=>v=true↔a.Frame=b.Frame) ⟨decide (a.Frame=b.Frame),decide_eq_true_iff,800000000,fun N hN=>Qbk hN _ _ h.fr⟩ (fun v hv => .ret ⟨fun g=>?_,fun e=>hv.2 (by rw [e])⟩);have el:a.Frame=b.Frame:=hv.1 g;cases a;cases b
 simp_all
end
end Go.Av
namespace Go.Av
noncomputable section
def zPk:Qu:=⟨0,false,false,0,0,[],[],false,0,[],false,[],false,[],false,(⟨[],[],0,false,[]⟩:J2),false,0,[],[],[]⟩
def zMk:U2:=⟨0,(⟨false,0,false,false,false,0⟩:Qz),0,0,0,false,0,0,0,[],[]⟩
def zFk:Zn:=⟨0,0,[],[]⟩
def zEk:Qf:=⟨0,0,[],[],0,false,false,0,[],0,[],0,zPk,zMk,zFk⟩
def Qn7 (h:Vd):Bool:=decide (0≤h.Radius∧h.Radius≤3∧1≤h.Node.length∧h.Node.length≤32)
def Qam (l:List Vd):Bool:=decide (l.length≤4)&&l.all Qn7
theorem Qku (N:Nat) (h:Vd):Jh N h=some (Qn7 h):=by
 unfold Jh Qn7;rw [Gc,Vv,Gc,Vv]
 by_cases h1:h.Radius≥0<;>by_cases h2:h.Radius≤3<;>by_cases h3:(h.Node.length:Int)≥1<;>by_cases h4:(h.Node.length:Int)≤32<;>simp [h1,h2,h3,h4]<;>omega
def Qkj:U2:=⟨23,(⟨false,0,false,false,false,0⟩:Qz),0,0,0,false,0,0,0,[],[]⟩
theorem Z1t (M:Nat):U4 (M+40) Qkj=some ([2,23],0):=by rfl
section
variable (l:List Vd) (hl:l.length≤30) (hn:∀ x∈l,x.Node.length≤300)
include hl hn
theorem Z20 (h4:l.length≤4):TotP (fun N=>Y9 N ⟨l,Qkj⟩ ⟨1048576,32⟩ ([2,23],0) N [] 0) (fun r=>r.2=0):=by
 refine Q4z (L:=fun N n (q:List UInt8×Int)=>Y9 N ⟨l,Qkj⟩ ⟨1048576,32⟩ ([2,23],0) n q.1 q.2) (fun q=>∃ i:Nat,q.2=(i:Int)∧i≤l.length∧q.1.length≤i * 400) (fun q=>l.length - q.2.toNat) ?_ ([],0) ⟨0,rfl,by omega,by simp⟩
 rintro ⟨o,s⟩ ⟨i,hs,hi,hq⟩
 simp only at hs hq
 subst hs;show Stp _ _ _ (fun N n=>cond (Q4 .lss (i:Int) ((Q8 Vd.cells l).length:Int)) _ _);rw [Q5,Ql];dsimp only;refine Stp.cond (fun hx=>?_) (fun _=>?_)
 ·have hx:=Aa hx
  have hi:i<l.length:=by omega
  refine Stp.idx (Qs hi) ?_;have hf:=hn _ (Ly hi);generalize l[i]=y at hf
  have e1:wrap .i64 ((i:Int)+1)=((i+1:Nat):Int):=by rw [w64 _ (by omega)];omega
  refine Stp.bind (Qkp y hf) (fun w hw=>?_);refine Stp.chk (by rw [Lu];omega) ?_;rw [e1];exact Stp.go (L:=fun N n (q:List UInt8×Int)=>Y9 N ⟨l,Qkj⟩ ⟨1048576,32⟩ ([2,23],0) n q.1 q.2) (o++w,((i+1:Nat):Int)) ⟨⟨i+1,rfl,by omega,by simp only [Lq];omega⟩,by simp only [Lw];omega⟩
 have e2:wrap .i64 ((o.length:Int)+2)=(o.length:Int)+2:=w64 _ (by omega);refine Stp.cond (fun h=>?_) (fun _=>?_)
 ·have h:wrap .i64 ((o.length:Int)+2)>1048576:=by rw [Xb] at h;exact Aa h
  rw [e2] at h;omega
 exact Stp.chk (by rw [Lu];simp;omega) (Stp.ret rfl)
theorem Qmx:TotP (fun N=>Yo N ⟨l,Qkj⟩ ⟨1048576,32⟩) (fun v=>decide (v=0)=Qam l):=by
 unfold Yo Q0l;refine TotP.bind (V:=fun v=>decide (v.2=0)=Qam l) ?_ (fun v hv => .ret hv);refine TotP.bindE (v:=true) (.of fun _=>rfl) ?_;refine TotP.cond (fun h=>by cases h) (fun _=>?_);show TotP (fun N=>cond (Q4 .gtr ((Q8 Vd.cells l).length:Int) 4) _ _) _;rw [Q5,Xb];refine TotP.cond (fun h => .ret ?_) (fun h4=>?_)
 ·have h:=Aa h;unfold Qam;rw [Ab (p:=l.length≤4) (by omega)];rfl
 have h4:l.length≤4:=by have:=Ac h4;omega
 have hb:Tot (fun N=>U4 N Qkj) ([2,23],0):=⟨40,fun N hN=>by obtain ⟨M,rfl⟩:∃ M,N=M+40:=⟨N - 40,by omega⟩;exact Z1t M⟩
 have fin:(∀ x∈l,Qn7 x=true)→TotP (fun N=>(U4 N Qkj).bind fun v53=>cond (Q4 .neq v53.2 0) (some ([],v53.2)) (Y9 N ⟨l,Qkj⟩ ⟨1048576,32⟩ v53 N [] 0)) (fun v=>decide (v.2=0)=Qam l):=fun hA=>by
  refine TotP.bindE hb ?_;refine TotP.cond (fun h=>by cases h) (fun _=>?_);refine (Z20 l hl hn h4).mono fun r hr=>?_;unfold Qam;rw [hr,Ad h4,Lp.2 hA];rfl
 refine Q2s (L:=fun N n i=>X2 N ⟨l,Qkj⟩ ⟨1048576,32⟩ n i) l.length (fun i=>∀ j (h:j<l.length),j<i→Qn7 l[j]=true) (fun i hi hj=>?_) (fun hj=>?_) (fun j _ hj=>by omega)
 ·show Stp _ _ _ (fun N n=>cond (Q4 .lss (i:Int) ((Q8 Vd.cells l).length:Int)) _ _);rw [Q5,Ql];refine Stp.cond (fun _=>?_) (fun h=>by have:=Ac h;omega);refine Stp.idx (Qs hi) ?_;refine Stp.bind (V:=fun v=>v = !(Qn7 l[i])) ⟨_,rfl,.of fun N=>by unfold Jz;rw [Qku];rfl⟩ (fun v hv=>?_);refine Stp.cond (fun h=>?_) (fun h=>?_)
  ·refine Stp.cond (fun _=>Stp.ret ?_) (fun h2=>?_)
   ·rw [hv] at h
    have:l.all Qn7=false:=by
     rw [Bool.eq_false_iff];intro hA;have:=Lp.1 hA _ (Ly hi);rw [this] at h;cases h
    unfold Qam;rw [this];simp
   rw [Gc] at h2;exact absurd (Ac h2) (by omega)
  rw [w64 _ (by omega)];refine Stp.go (L:=fun N n i=>X2 N ⟨l,Qkj⟩ ⟨1048576,32⟩ n i) _ ⟨by omega,fun j hj' hji=>?_⟩
  by_cases e:j=i
  ·subst e;rw [hv] at h;simpa using h
  exact hj j hj' (by omega)
 show Stp _ _ _ (fun N n=>cond (Q4 .lss ((l.length:Nat):Int) ((Q8 Vd.cells l).length:Int)) _ _);rw [Q5,Ql];refine Stp.cond (fun h=>by have:=Aa h;omega) (fun _=>Stp.fin (fin fun x hx=>?_));obtain ⟨j,hj',rfl⟩:=Mr hx;exact hj j hj' hj'
end
def Qaq (s:List UInt8):Bool:=decide (s.length=2)&&Q09 s
def Qi4 (e:Qf):Bool:=decide (0≤e.Type'∧e.Type'≤2)&&((!(decide (e.Type'=2))||Qaq e.Topic)&&Qam e.Hops)
theorem Zk9 (s:List UInt8) (hs:s.length=2):TotP (fun N=>Q0x N s) (fun _=>True):=by
 match s,hs with
 | [a,b],_=>exact ⟨_,trivial,3,fun N hN=>by
   obtain ⟨M,rfl⟩:∃ M,N=M+3:=⟨N - 3,by omega⟩
   rfl⟩
theorem nB {x:Bool} (h:(!x)=true):x=false:=by cases x;rfl;cases h
theorem pB {x:Bool} (h:(!x)=false):x=true:=by cases x;cases h;rfl
theorem Qo0 (s:List UInt8) (hs:s.length≤maxLen):TotP (fun N=>Q19 N s) (fun v=>v.2=Qaq s):=by
 show TotP (fun N=>cond (Q4 .neq (s.length:Int) 2) _ _) _;unfold Qaq;rw [Yc];refine TotP.cond (fun h => .ret ?_) (fun h=>?_)
 ·have:¬ s.length=2:=fun e=>(Aa h) (by omega);rw [Ab this];rfl
 have h:s.length=2:=by have:=Ac h;omega
 rw [Ad h];refine TotP.bindE (Q86 s hs) ?_;refine TotP.cond (fun g => .ret (by simpa using g)) (fun g=>?_);exact TotP.bind (Zk9 s h) (fun _ _ => .ret (by simpa using g))
theorem Qtz (e:Qf) (ht:e.Topic.length≤maxLen) (hl:e.Hops.length≤30) (hn:∀ x∈e.Hops,x.Node.length≤300):Tot (fun N=>Jp N e) (Qi4 e):=by
 refine TotP.tot ?_;unfold Jp Qi4;refine TotP.bindE (.of fun N=>Qck N _ _ _) ?_
 have e0:(decide (0≤e.Type')&&decide (e.Type'≤2))=decide (0≤e.Type'∧e.Type'≤2):=by simp
 rw [e0];refine TotP.cond (fun g => .ret ?_) (fun g=>?_)
 ·rw [nB g];rfl
 rw [pB g];refine TotP.bind (Qo0 _ ht) (fun v hv=>?_);rw [Zv,hv];refine TotP.cond (fun g2=>?_) (fun g2=>?_)
 ·rw [g2];refine TotP.cond (fun g3 => .ret ?_) (fun g3=>?_)
  ·rw [nB g3];rfl
  rw [pB g3];refine TotP.bindE (v:=⟨1048576,32⟩) (.of fun _=>rfl) ?_;refine TotP.bind (Qmx e.Hops hl hn) (fun w hw => .ret ?_);rw [Zv,hw];rfl
 rw [g2];refine TotP.bindE (v:=⟨1048576,32⟩) (.of fun _=>rfl) ?_;refine TotP.bind (Qmx e.Hops hl hn) (fun w hw => .ret ?_);rw [Zv,hw];rfl
open Classical in
noncomputable def Q36 (e:Qf):Bool:=decide (e.Packet=zPk∧e.Msg=zMk∧e.Frame=zFk)
open Classical in
theorem Qxz {e:Qf} (hpk:Qwt e.Packet) (hs:Q0.szs e.Frame.Values<700000000):Tot (fun N=>Jo N e) (Q36 e):=by
 have key:TotP (fun N=>Jo N e) (fun v=>v=true↔e.Packet=zPk∧e.Msg=zMk∧e.Frame=zFk):=by
  unfold Jo;refine TotP.bind (Qiz e.Packet zPk hpk) (fun v hv=>?_);refine TotP.cond (fun g=>?_) (fun g => .ret ⟨fun h=>absurd h (by decide),fun h=>absurd (hv.2 h.1) (by rw [g];decide)⟩)
  refine TotP.cond (fun g2=>?_) (fun g2 => .ret ⟨fun h=>absurd h (by decide),fun h=>absurd ((Qo3 e.Msg zMk).2 h.2.1) (by
   intro h3;have:false=true:=g2.symm.trans h3;cases this)⟩)
  refine TotP.bind (V:=fun v=>v=true↔e.Frame=zFk) ⟨decide (e.Frame=zFk),decide_eq_true_iff,800000000,fun N hN=>Qqm hN _ _ hs⟩ (fun w hw => .ret ⟨fun h=>⟨hv.1 g,(Qo3 e.Msg zMk).1 g2,hw.1 h⟩,fun h=>hw.2 h.2.2⟩)
 obtain ⟨v,hv,ht⟩:=key
 have:v=Q36 e:=by
  unfold Q36
  by_cases h:e.Packet=zPk∧e.Msg=zMk∧e.Frame=zFk
  ·rw [hv.2 h,Ad h]
  rw [Ab h]
  cases v with
  | false=>rfl
  | true=>exact absurd (hv.1 rfl) h
 rw [← this];exact ht
noncomputable def Q4m (e:Qf) (v:Int):Int:=
 open Classical in
 if ¬ ((e.Proto=1∨e.Proto=2∨e.Proto=3∨e.Proto=4)∧e.Kind=1) then 2 else if Q09 e.Topic=false then 10 else if ¬ PubT e (cq e) (Qi4 e) (Q36 e) then 2 else if v≠0 then 9 else 0
theorem Qz1 {e:Qf} {v:Int} (ht:e.Topic.length≤maxLen) (hl:e.Hops.length≤30) (hh:∀ x∈e.Hops,x.Node.length≤300) (hpk:Qwt e.Packet) (hs:Q0.szs e.Frame.Values<700000000)
  (hv:Tot (fun N=>W6 N 3 e.Props) v):Tot (fun N=>Yj N e) (Q4m e v):=by
 refine TotP.tot ?_;rw [show (fun N=>Yj N e)=fun N=>Wj N e (cq e) from funext fun N=>Qql N e];unfold Wj;refine TotP.bindE (.of fun N=>Qt4 N e.Proto) ?_;rw [Yc]
 have bad:¬ ((e.Proto=1∨e.Proto=2∨e.Proto=3∨e.Proto=4)∧e.Kind=1)→2=Q4m e v:=fun h=>by unfold Q4m;rw [Af h]
 refine TotP.cond (fun g => .ret (bad fun h=>Ac (nB g) h.1)) (fun g=>?_);have k1:=Aa (pB g);refine TotP.cond (fun g => .ret (bad fun h=>Aa g h.2)) (fun g=>?_);have k2:e.Kind=1:=Decidable.byContradiction fun x=>Ac g x;refine TotP.bindE (Q86 e.Topic ht) ?_;refine TotP.cond (fun g => .ret (by unfold Q4m;rw [Ae (Ao ⟨k1,k2⟩),Af (nB g)])) (fun g=>?_)
 have kn:¬ Q09 e.Topic=false:=by rw [pB g];exact fun h=>by cases h
 have two:¬ PubT e (cq e) (Qi4 e) (Q36 e)→TotP (fun _=>some (2:Int)) (· = Q4m e v):=fun h => .ret (by unfold Q4m;rw [Ae (Ao ⟨k1,k2⟩),Ae kn,Af h])
 have j5:(Q36 e=true→PubT e (cq e) (Qi4 e) (Q36 e))→TotP (fun N=>Vm N e) (· = Q4m e v):=fun mk=>by
  unfold Vm;refine TotP.bindE (Qxz hpk hs) ?_;refine TotP.cond (fun g=>two fun h=>by have:=h.bare;rw [nB g] at this;cases this) (fun g=>?_);have hP:=mk (pB g);refine TotP.bindE hv ?_;rw [Yc];refine TotP.cond (fun g => .ret ?_) (fun g => .ret ?_)
  ·unfold Q4m;rw [Ae (Ao ⟨k1,k2⟩),Ae kn,Ae (Ao hP),Af (Aa g)]
  unfold Q4m;rw [Ae (Ao ⟨k1,k2⟩),Ae kn,Ae (Ao hP),Ae (Ac g)]
 have j4:((0≤e.Channel∧e.Channel≤65535)→(e.Channel≠0→e.Proto=4)→Q36 e=true→PubT e (cq e) (Qi4 e) (Q36 e))→TotP (fun N=>Vn N e) (· = Q4m e v):=fun mk=>by
  unfold Vn;refine TotP.bindE (.of fun N=>Qck N _ _ _) ?_;rw [Yc,Yc];refine TotP.cond (fun g=>two fun h=>by have:=h.ch;simp at g;omega) (fun g=>?_)
  have c1:0≤e.Channel∧e.Channel≤65535:=by simpa using g
  refine TotP.cond (fun g1=>?_) (fun g1=>j5 (mk c1 fun x=>absurd x (Ac g1)));refine TotP.cond (fun g2=>two fun h=>Aa g2 (h.ch4 (Aa g1))) (fun g2=>j5 (mk c1 fun _=>Decidable.byContradiction fun x=>Ac g2 x))
 have j3:((e.Proto=3→Qi4 e=true)→(e.Proto≠3→e.Type'=0∧e.Hops.length=0)→(0≤e.Channel∧e.Channel≤65535)→(e.Channel≠0→e.Proto=4)→Q36 e=true→PubT e (cq e) (Qi4 e) (Q36 e))→TotP (fun N=>Vq N e) (· = Q4m e v):=fun mk=>by
  unfold Vq;rw [Zv,Yc,Xb,Q5];refine TotP.cond (fun g=>?_) (fun g=>?_)
  ·have p3:=Aa g;refine TotP.bindE (Qtz e ht hl hh) ?_;exact TotP.cond (fun g=>two fun h=>by have:=h.ty p3;rw [nB g] at this;cases this) (fun g=>j4 (mk (fun _=>pB g) fun x=>absurd p3 x))
  have p3:=Ac g;refine TotP.cond (fun g=>two fun h=>Aa g (h.ty2 p3).1) (fun g1=>?_);refine TotP.cond (fun g=>two fun h=>by have:=Aa g;have:=(h.ty2 p3).2;omega) (fun g2=>j4 (mk (fun x=>absurd x p3) fun _=>⟨Decidable.byContradiction fun x=>Ac g1 x,by have:=Ac g2;omega⟩))
 have j2:((0<e.Props.length→e.Proto=2)→(e.Proto=3→Qi4 e=true)→(e.Proto≠3→e.Type'=0∧e.Hops.length=0)→(0≤e.Channel∧e.Channel≤65535)→(e.Channel≠0→e.Proto=4)→Q36 e=true→PubT e (cq e) (Qi4 e) (Q36 e))→TotP (fun N=>Wm N e) (· = Q4m e v):=fun mk=>by
  unfold Wm;rw [Xb,Yc,Q5];refine TotP.cond (fun g=>?_) (fun g=>j3 (mk fun x=>by have:=Ac g;omega));refine TotP.cond (fun g2=>two fun h=>Aa g2 (h.props (by have:=Aa g;omega))) (fun g2=>j3 (mk fun _=>Decidable.byContradiction fun x=>Ac g2 x))
 have j1:((0≤e.QoS∧e.QoS≤2)∨(e.Proto=3∧e.QoS = -1))→TotP (fun N=>Vr N e (cq e)) (· = Q4m e v):=fun hq=>by
  unfold Vr;refine TotP.bindE (.of fun N=>Qck N _ _ _) ?_;rw [Yc,Zv];refine TotP.cond (fun g=>two fun h=>by have:=h.id;simp at g;omega) (fun g=>?_)
  have c1:0≤e.ID∧e.ID≤65535:=by simpa using g
  refine TotP.cond (fun g=>two fun h=>by have:=h.cid;rw [← this] at g;simp at g) (fun g=>?_)
  have c2:cq e=decide (e.ID≠0):=by simpa using g
  have mk:=fun d a b c f g h=>(⟨k1,k2,hq,c1,c2,d,a,b,c,f,g,h⟩:PubT e (cq e) (Qi4 e) (Q36 e));refine TotP.cond (fun g=>?_) (fun g=>j2 (mk fun d=>by rw [d] at g;cases g));refine TotP.cond (fun g2=>?_) (fun g2=>j2 (mk fun _ => .inl (pB g2)));refine TotP.cond (fun g3=>two fun h=>?_) (fun g3=>j2 (mk fun _ => .inr (Aa (pB g3))))
  rcases h.dup g with x | x
  ·rw [nB g2] at x;cases x
  exact Ac (nB g3) x
 refine TotP.bindE (.of fun N=>Qck N _ _ _) ?_;rw [Zv,Zv];refine TotP.cond (fun g=>?_) (fun g=>j1 (.inl (by simpa using g)))
 have nq:¬ (0≤e.QoS∧e.QoS≤2):=fun h=>by simp at g;omega
 refine TotP.cond (fun g1=>?_) (fun g1=>two fun h=>h.qos.elim nq fun x=>Ac g1 x.1);exact TotP.cond (fun g2=>two fun h=>h.qos.elim nq fun x=>Ac (nB g2) x.2) (fun g2=>j1 (.inr ⟨Aa g1,Aa (pB g2)⟩))
end
end Go.Av
namespace Go.Av
noncomputable section
section
variable {B:Nat} {c:Qh} (h:Cd B c) (hB:B≤1000) (k:c.m.Type'=12)
include h hB k
theorem Qze:TotP (fun N=>Yp N c) (fun r=>Cd (B+700000) r.2):=by
 unfold Yp;simp only [k]
 iterate 14 refine TotP.cond (fun g=>absurd g (by decide)) (fun _=>?_)
 refine TotP.cond (fun _=>?_) (fun g=>absurd g (by decide));refine TotP.bind (Qus h (by omega)) (fun v hv=>?_);refine TotP.bind (Z2a hv (by omega)) (fun v hv=>?_);refine TotP.bind (Z0a hv (by omega)) (fun v hv=>?_);refine TotP.bind (Qwg hv (by omega)) (fun v hv=>?_);exact TotP.ret (Cd.mono hv (by omega))
end
section
variable {m:U2} (h:OkM m) (k:m.Type'=12)
include h k
theorem Qve:TotP (fun N=>Jk N m) (fun l=>l.length≤700000):=by
 unfold Jk;exact TotP.bind (Qze (c:=⟨1,m,[],false⟩) (cd0 h 1 (.inl rfl)) (by omega) k) (fun v hv => .ret (by have:=hv.ou;rw [Mf];omega))
theorem Qwp:Any (fun N=>Q1o N m):=by
 have hm:=ml7;have hn:=h.nm
 have h1:Any (fun N=>Q1l N m.Type'):=by rw [k];exact ⟨_,trivial,.of fun N=>rfl⟩
 have h2:Tot (fun N=>Q4l N m.Type') false:=by rw [k];exact .of fun N=>rfl
 have h3:Any (fun N=>Jr N m):=by
  unfold Jr
  repeat' first
   | exact TotP.ret trivial
   | refine TotP.cond (fun _=>?_) (fun _=>?_)
 have hN:∀ s:List UInt8,s.length≤70000→Any (fun N=>X4 N s):=fun s hs=>Qx2 (Q86 _ (by omega))
 have h4:∀ i,Any (fun N=>Jn N i):=fun i=>by
  unfold Jn;refine TotP.cond (fun _ => .ret trivial) (fun _=>TotP.cond (fun _ => .ret trivial) (fun _=>?_));refine TotP.bind (Q7w _ _) (fun v hv=>?_);refine TotP.bind (hN v (by omega)) (fun _ _=>?_);exact TotP.cond (fun _ => .ret trivial) (fun _ => .ret trivial)
 have h5:Any (fun N=>Uh N m):=by
  unfold Uh
  repeat' first
   | exact TotP.ret trivial
   | refine TotP.cond (fun _=>?_) (fun _=>?_)
   | refine TotP.bind (by first | exact h4 _) (fun _ _=>?_)
 have h6:Any (fun N=>Q06 N m):=by
  unfold Q06;simp only [k];exact ⟨0,trivial,.of fun N=>rfl⟩
 have h7:=(Qze (c:=⟨2,m,[],false⟩) (cd0 h 2 (.inr rfl)) (by omega) k).any;have h8:=(Qve h k).any;have h9:∀ a b,Any (fun N=>V6 N a b):=fun a b=>(Qk4 a b).any;have h10:=Qtw m.Type' m.Flags;unfold Q1o;refine TotP.bind h1 (fun _ _=>TotP.cond (fun _ => .ret trivial) (fun _=>?_));refine TotP.bind h10 (fun _ _=>TotP.cond (fun _ => .ret trivial) (fun _=>?_));refine TotP.bindE h2 ?_;refine TotP.cond (fun g=>absurd g (by decide)) (fun _=>?_)
 repeat' first
  | exact TotP.ret trivial
  | refine TotP.cond (fun _=>?_) (fun _=>?_)
  | refine TotP.bind (by first | exact h7 | exact h3 | exact h5 | exact h6 | exact h8 | exact h9 _ _) (fun _ _=>?_)
theorem Qkr:TotP (fun N=>U4 N m) (fun r=>r.1.length≤800000):=by
 unfold U4;refine TotP.bind (Qwp h k) (fun _ _=>TotP.cond (fun _ => .ret (by simp)) (fun _=>?_));refine TotP.bind (Qve h k) (fun v hv=>?_);refine TotP.bind (Qk4 _ _) (fun w hw=>TotP.cond (fun _ => .ret (by simp)) (fun _=>?_));exact TotP.chk (by rw [Lu];omega) (.ret (by simp only [Lq];omega))
end
theorem Z0b {d:Qq} (h:Z1m d) (k:d.Msg.Type'=12) (l:Xm):Any (fun N=>Yo N d l):=by
 have hc:=h.hops
 have h0:Any (fun N=>X2 N d l N 0):=by
  refine Q2s (L:=fun N n i=>X2 N d l n i) d.Hops.length (fun _=>True) (fun i hi _=>?_) (fun _=>?_) trivial
  ·show Stp _ _ _ (fun N n=>cond (Q4 .lss (i:Int) ((Q8 Vd.cells d.Hops).length:Int)) _ _);refine Stp.cond (fun _=>?_) (fun _=>?_)
   ·refine Stp.idx (Qs hi) ?_;refine Stp.bind (Qsm _) (fun _ _=>?_);refine Stp.cond (fun _=>?_) (fun _=>?_)
    ·refine Stp.cond (fun _=>Stp.ret trivial) (fun _=>?_);refine Stp.fin (TotP.bind (Qkr h.msg k) (fun v hv=>?_));exact TotP.cond (fun _ => .ret trivial) (fun _=>Qov h l v hv)
    rw [w64 _ (by omega)];exact Stp.go (L:=fun N n i=>X2 N d l n i) _ ⟨by omega,trivial⟩
   refine Stp.fin (TotP.bind (Qkr h.msg k) (fun v hv=>?_));exact TotP.cond (fun _ => .ret trivial) (fun _=>Qfo h l v hv)
  show Stp _ _ _ (fun N n=>cond (Q4 .lss (d.Hops.length:Int) ((Q8 Vd.cells d.Hops).length:Int)) _ _);rw [Q5,Ql,Ab (by omega)];refine Stp.fin (TotP.bind (Qkr h.msg k) (fun v hv=>?_));exact TotP.cond (fun _ => .ret trivial) (fun _=>Qfo h l v hv)
 have h1:Any (fun N=>Q0p N l):=by
  unfold Q0p
  repeat' first
   | exact TotP.ret trivial
   | refine TotP.cond (fun _=>?_) (fun _=>?_)
 unfold Yo Q0l;refine TotP.bind (V:=fun _=>True) ?_ (fun _ _ => .ret trivial);refine TotP.bind h1 (fun _ _=>?_);exact TotP.cond (fun _ => .ret trivial) (fun _=>TotP.cond (fun _ => .ret trivial) (fun _=>h0))
end
end Go.Av
namespace Go.Av
noncomputable section
section
variable {T:Type}
end
structure Z5p (p:Qu):Prop where
 codes:p.Codes.length≤100000
 filters:p.Filters.length≤100000
 props:p.Props.length≤100000
 wprops:p.Will.Props.length≤100000
theorem Qil (e:Qf) (hp:e.Props.length≤100000) (hh:e.Hops.length≤100000) (hk:Qr6 e.Packet) (hv:e.Frame.Values = []):Tot (fun N=>Vh N e) e:=by
 refine ⟨1,fun N hN=>?_⟩;obtain ⟨M,rfl⟩:∃ M,N=M+1:=⟨N - 1,by omega⟩;show Vh (M+1) e=_;unfold Vh;rw [Q7b _ _ hp,Ql7 _ _ hh,Qla _ _ hk];simp only [Lh];obtain ⟨a0,a1,a2,a3,a4,a5,a6,a7,a8,a9,a10,a11,a12,a13,⟨b0,b1,b2,b3⟩⟩:=e
 simp only at hv
 subst hv;rfl
end
end Go.Av
namespace Go.Av
noncomputable section
theorem Q2k {T:Type} (c:T→List PV) (l:List T):(Q8 c l).length=l.length:=by simp [Q8]
def few (m:Nat) (o:Q3):Prop:=o.L.length≤m∧∀ e∈o.L,e.l.length≤m
theorem Qgm {m:Nat} (hm:m≤1000) {o:Q3} (ho:few m o) (c:List UInt8):TotP (fun N=>Zy N o c) (fun r=>r.1.length≤m∧r.2=o):=by
 unfold Zy;refine Q2s (L:=fun N n s=>Z8 N o c n s) o.L.length (fun _=>True) (fun i hi _=>?_) (fun _=>?_) trivial
 ·have hy:o.L[i].l.length≤m:=ho.2 _ (Ly hi);have:=ho.1;show Stp _ _ _ (fun N n=>cond (Q4 .lss (i:Int) ((Q8 Q1.cells o.L).length:Int)) _ _);rw [Q2k,Ql];refine Stp.cond (fun _=>?_) (fun h=>absurd (Ac h) (by omega));refine Stp.idx (Qs hi) ?_;refine Stp.cond (fun _=>?_) (fun _=>?_)
  ·refine Stp.idx (Qs hi) ?_;refine Stp.cond (fun _=>Stp.ret ⟨Mi _,rfl⟩) (fun _=>?_);refine Stp.chk (by rw [Q2k,Lu];omega) ?_;exact Stp.ret ⟨by simpa using hy,rfl⟩
  rw [w64 _ (by omega)];exact Stp.go (L:=fun N n s=>Z8 N o c n s) _ ⟨by omega,trivial⟩
 show Stp _ _ _ (fun N n=>cond (Q4 .lss ((o.L.length:Nat):Int) ((Q8 Q1.cells o.L).length:Int)) _ _);rw [Q2k,Ql];refine Stp.cond (fun h=>absurd (Aa h) (by omega)) (fun _=>Stp.ret ⟨Mi _,rfl⟩)
theorem Qk5 {m:Nat} (hm:m≤1000) {l:List Zh} (hl:l.length≤m) (t:Zh):TotP (fun N=>V2 N l t) (fun r=>r.length≤m+1):=by
 unfold V2;refine Q4z (S:=Bool×Int×List Zh) (L:=fun N n s=>Zj N l t n s.1 s.2.1 s.2.2) (fun s=>∃ i:Nat,s.2.1=(i:Int)∧i≤l.length∧s.2.2.length≤i+(if s.1=true then 1 else 0)) (fun s=>l.length - s.2.1.toNat) ?_ (false,0,[]) ⟨0,rfl,Mi _,by simp⟩
 rintro ⟨b,j,out⟩ ⟨i,hj,hi,ho⟩
 simp only at hj hi ho
 subst hj;show Stp _ _ _ (fun N n=>cond (Q4 .lss (i:Int) ((Q8 Zh.cells l).length:Int)) _ _);rw [Q2k,Ql];dsimp only
 have hob:out.length≤i+1:=by revert ho;split<;>omega
 refine Stp.cond (fun h=>?_) (fun _=>?_)
 ·have hlt:i<l.length:=by have:=Aa h;omega
  have ew:wrap .i64 ((i:Int)+1)=((i+1:Nat):Int):=by rw [w64 _ (by omega)];omega
  rw [ew];refine Stp.cond (fun hb=>?_) (fun hb=>?_)
  ·have hb:b=false:=by simpa using hb
   subst hb
   have ho:out.length≤i:=by simpa using ho
   refine Stp.idx (Qs hlt) ?_;refine Stp.cond (fun _=>?_) (fun _=>?_)
   ·refine Stp.chk (by rw [Lu];omega) ?_;refine Stp.idx (Qs hlt) ?_;refine Stp.chk (by rw [Lu];omega) ?_;exact Stp.go (L:=fun N n s=>Zj N l t n s.1 s.2.1 s.2.2) (true,((i+1:Nat):Int),(out ++ [t]) ++ [l[i]]) ⟨⟨i+1,rfl,hlt,by simp;omega⟩,by simp only [Lw];omega⟩
   refine Stp.idx (Qs hlt) ?_;refine Stp.chk (by rw [Lu];omega) ?_;exact Stp.go (L:=fun N n s=>Zj N l t n s.1 s.2.1 s.2.2) (false,((i+1:Nat):Int),out ++ [l[i]]) ⟨⟨i+1,rfl,hlt,by simp;omega⟩,by simp only [Lw];omega⟩
  refine Stp.idx (Qs hlt) ?_;refine Stp.chk (by rw [Lu];omega) ?_;exact Stp.go (L:=fun N n s=>Zj N l t n s.1 s.2.1 s.2.2) (b,((i+1:Nat):Int),out ++ [l[i]]) ⟨⟨i+1,rfl,hlt,by simp only [Lq,Mq];omega⟩,by simp only [Lw];omega⟩
 refine Stp.cond (fun hb=>?_) (fun _=>Stp.ret (by omega))
 have hb:b=false:=by simpa using hb
 subst hb
 have ho:out.length≤i:=by simpa using ho
 refine Stp.chk (by rw [Lu];omega) ?_;exact Stp.ret (by simp;omega)
theorem Qk9 {m:Nat} (hm:m≤1000) {o:Q3} (ho:few m o) (c:List UInt8) {l:List Zh} (hl:l.length≤m+1):TotP (fun N=>Ye N o c l) (fun r=>few (m+1) r.2):=by
 unfold Ye;refine Q4z (S:=Bool×Int×List Q1) (L:=fun N n s=>Q9 N o c l n s.1 s.2.1 s.2.2)
  (fun s=>∃ i:Nat,s.2.1=(i:Int)∧i≤o.L.length∧s.2.2.length≤i+(if s.1=true then 1 else 0)∧∀ e∈s.2.2,e.l.length≤m+1) (fun s=>o.L.length - s.2.1.toNat) ?_ (_,0,[]) ⟨0,rfl,Mi _,by simp,fun e h=>by cases h⟩
 rintro ⟨b,j,out⟩ ⟨i,hj,hi,hq,hx⟩
 simp only at hj hi hq hx
 subst hj;have h1:=ho.1;show Stp _ _ _ (fun N n=>cond (Q4 .lss (i:Int) ((Q8 Q1.cells o.L).length:Int)) _ _);rw [Q2k,Ql];dsimp only
 have hob:out.length≤i+1:=by revert hq;split<;>omega
 have addx:∀ (l1:List Q1) (e:Q1),(∀ e∈l1,e.l.length≤m+1)→e.l.length≤m+1→∀ x∈l1 ++ [e],x.l.length≤m+1:=fun l1 e h1 h2 x hx=>by
  rcases Mg.1 hx with h | h
  ·exact h1 x h
  simp at h;subst h;exact h2
 refine Stp.cond (fun h=>?_) (fun _=>?_)
 ·have hlt:i<o.L.length:=by have:=Aa h;omega
  have hy:o.L[i].l.length≤m+1:=Nf (ho.2 _ (Ly hlt))
  have ew:wrap .i64 ((i:Int)+1)=((i+1:Nat):Int):=by rw [w64 _ (by omega)];omega
  rw [ew];refine Stp.idx (Qs hlt) ?_
  have go:∀ (b':Bool) (out':List Q1),out'.length≤i+1+(if b'=true then 1 else 0)→(∀ e∈out',e.l.length≤m+1)→Stp (fun N n (s:Bool×Int×List Q1)=>Q9 N o c l n s.1 s.2.1 s.2.2)
    (fun s'=>(∃ i:Nat,s'.2.1=(i:Int)∧i≤o.L.length∧s'.2.2.length≤i+(if s'.1=true then 1 else 0)∧∀ e∈s'.2.2,e.l.length≤m+1)∧o.L.length - s'.2.1.toNat<o.L.length - (i:Int).toNat) (fun r=>few (m+1) r.2)
    (fun N n=>Q9 N o c l n b' ((i+1:Nat):Int) out'):=fun b' out' h2 h3=>
   Stp.go (L:=fun N n (s:Bool×Int×List Q1)=>Q9 N o c l n s.1 s.2.1 s.2.2) (b',((i+1:Nat):Int),out') ⟨⟨i+1,rfl,hlt,h2,h3⟩,by simp only [Lw];omega⟩
  have keep:∀ b',b'=b→Stp (fun N n (s:Bool×Int×List Q1)=>Q9 N o c l n s.1 s.2.1 s.2.2)
    (fun s'=>(∃ i:Nat,s'.2.1=(i:Int)∧i≤o.L.length∧s'.2.2.length≤i+(if s'.1=true then 1 else 0)∧∀ e∈s'.2.2,e.l.length≤m+1)∧o.L.length - s'.2.1.toNat<o.L.length - (i:Int).toNat) (fun r=>few (m+1) r.2)
    (fun N n=>cond (G9 .neq o.L[i].client c) (cond (Nat.ble ((out.length+1+4096) * 40) 17592186044416) (Q9 N o c l n b' ((i+1:Nat):Int) (out ++ [o.L[i]])) none) (Q9 N o c l n b' ((i+1:Nat):Int) out)):=fun b' hb'=>by
   subst hb';refine Stp.cond (fun _=>?_) (fun _=>go _ _ (by omega) hx);refine Stp.chk (by rw [Lu];omega) ?_;exact go _ _ (by simp only [Lq,Mq];omega) (addx _ _ hx hy)
  refine Stp.cond (fun hb=>?_) (fun _=>keep b rfl);refine Stp.cond (fun _=>?_) (fun _=>keep b rfl)
  have hb:b=false:=by simpa using hb
  subst hb
  have hq:out.length≤i:=by simpa using hq
  refine Stp.chk (by rw [Lu];omega) ?_;refine Stp.cond (fun _=>?_) (fun _=>?_)
  ·refine Stp.chk (by rw [Lu];omega) ?_;exact go _ _ (by simp;omega) (addx _ _ (addx _ _ hx hl) hy)
  exact go _ _ (by simp;omega) (addx _ _ hx hl)
 refine Stp.cond (fun hb=>?_) (fun _=>Stp.ret ⟨by show out.length≤_;omega,hx⟩)
 have hb:b=false:=by simpa using hb
 subst hb
 have hq:out.length≤i:=by simpa using hq
 refine Stp.chk (by rw [Lu];omega) ?_;exact Stp.ret ⟨by show (out ++ [_]).length≤_;simp;omega,addx _ _ hx hl⟩
theorem Qsx {m:Nat} (hm:m≤1000) (c n:List UInt8) {v:List Zh×Q3} (hv:v.1.length≤m) (ho:few m v.2) :
  TotP (fun N=>Qj N c n v N 1 0) (fun r=>few (m+1) r.2):=by
 refine Q4z (S:=Int×Int) (L:=fun N k s=>Qj N c n v k s.1 s.2) (fun s=>∃ i j:Nat,s.2=(i:Int)∧i≤v.1.length∧s.1=(j:Int)∧j≤i+1) (fun s=>v.1.length - s.2.toNat) ?_ (1,0) ⟨0,1,rfl,Mi _,rfl,Li _⟩
 rintro ⟨f,k⟩ ⟨i,j,hk,hi,hf,hj⟩
 simp only at hk hf
 subst hk hf;have weak:few (m+1) v.2:=⟨Nf ho.1,fun e he=>Nf (ho.2 e he)⟩;show Stp _ _ _ (fun N n'=>cond (Q4 .lss (i:Int) ((Q8 Zh.cells v.1).length:Int)) _ _);rw [Q2k,Ql];dsimp only;refine Stp.cond (fun h=>?_) (fun _=>?_)
 ·have hlt:i<v.1.length:=by have:=Aa h;omega
  have ew:wrap .i64 ((i:Int)+1)=((i+1:Nat):Int):=by rw [w64 _ (by omega)];omega
  have ej:wrap .i64 ((j:Int)+1)=((j+1:Nat):Int):=by rw [w64 _ (by omega)];omega
  rw [ew,ej];refine Stp.idx (Qs hlt) ?_;refine Stp.cond (fun _=>?_) (fun _=>?_)
  ·refine Stp.idx (Qs hlt) ?_;exact Stp.ret weak
  refine Stp.idx (Qs hlt) ?_;refine Stp.cond (fun _=>?_) (fun _=>?_)
  ·exact Stp.go (L:=fun N k (s:Int×Int)=>Qj N c n v k s.1 s.2) (((j+1:Nat):Int),((i+1:Nat):Int)) ⟨⟨i+1,j+1,rfl,hlt,rfl,by omega⟩,by simp only [Lw];omega⟩
  exact Stp.go (L:=fun N k (s:Int×Int)=>Qj N c n v k s.1 s.2) ((j:Int),((i+1:Nat):Int)) ⟨⟨i+1,j,rfl,hlt,rfl,by omega⟩,by simp only [Lw];omega⟩
 refine Stp.cond (fun _=>Stp.ret weak) (fun _=>?_);refine Stp.bind (Qk5 hm hv _) (fun w hw=>?_);refine Stp.bind (Qk9 hm ho c hw) (fun u hu=>?_);exact Stp.ret hu
end
end Go.Av
namespace Go.Av
noncomputable section
open Go.Proofs
theorem Zk1 (x:Nat) (h:x≤9223372036854775807):wrap .i64 (x:Int)=x:=w64 _ (by omega)
theorem Qlu (N:Nat) (s:List UInt8) (j:Nat):Zu N s (j:Int)=some (if goes s j then (((at8 s j - 128:Nat):Int),true) else (0,false)):=by
 unfold Zu;rw [Gc]
 by_cases hj:j<s.length
 ·have hb:=Di s[j];rw [Ab (show ¬ ((j:Int)≥(s.length:Int)) by omega),Ah,Qs hj,Lh,Ql,Lh,Xb,Lh];have e:=Q93 hj
  by_cases h1:at8 s j<128
  ·rw [Ad (by omega),Ai,Ae (fun h=>by have:=h.2.1;omega)]
  rw [Ab (by omega),Ah]
  by_cases h2:at8 s j<192
  ·rw [Ab (by omega),Ah,Af ⟨hj,by omega,h2⟩,w64 ((s[j]).toNat:Int) (by omega),w64 _ (by omega)]
   congr 2;omega
  rw [Ad (by omega),Ai,Ae (fun h=>h2 h.2.2)]
 rw [Ad (show ((j:Int)≥(s.length:Int)) by omega),Ai,Ae (fun h=>hj h.1)]
theorem Z30 (N:Nat) (s:List UInt8) (i n x k:Nat) (hk:k<2) (hx:x<1099511627776) (hi:i≤4611686018427387904):Z5 N s (i:Int) (n+1) (x:Int) (k:Int) =
  if goes s (i+k) then Z5 N s (i:Int) n ((64 * x+(at8 s (i+k) - 128):Nat):Int) ((k+1:Nat):Int) else some (0,0):=by
 have hb:=Q8q s (i+k);rw [Z5,Ql,Ad (by omega),Ai,show wrap .i64 ((i:Int)+(k:Int))=((i+k:Nat):Int) by rw [w64 _ (by omega)];omega,Qlu,Lh]
 by_cases g:goes s (i+k)
 ·rw [Af g,Af g];show Z5 N s (i:Int) n (wrap .i64 (wrap .i64 (64 * (x:Int))+((at8 s (i+k) - 128:Nat):Int))) (wrap .i64 ((k:Int)+1))=_;rw [w64 (64 * (x:Int)) (by omega),w64 _ (by omega),w64 _ (by omega)]
  congr 1
 rw [Ae g,Ae g];rfl
theorem Qzp (N:Nat) (s:List UInt8) (i n x:Nat):Z5 N s (i:Int) (n+1) (x:Int) ((2:Nat):Int)=if 128≤x∧Qan x then some ((x:Int),2) else some (0,0):=by
 rw [Z5,Ql,Ab (by omega),Ah,Ql,Xb,Gc,Vv];unfold Qan
 by_cases h1:x<128
 ·rw [Ad (by omega),Ai,Ae (by omega)]
 rw [Ab (show ¬ ((x:Int)<128) by omega),Ah]
 by_cases h2:x≤1114111
 ·rw [Ab (show ¬ ((x:Int)>1114111) by omega),Ah]
  by_cases h3:55296≤x
  ·rw [Ad (show ((x:Int)≥55296) by omega),Ai]
   by_cases h4:x≤57343
   ·rw [Ad (show ((x:Int)≤57343) by omega),Ai,Ae (by omega)]
   rw [Ab (show ¬ ((x:Int)≤57343) by omega),Ah,Af (by omega)]
  rw [Ab (show ¬ ((x:Int)≥55296) by omega),Ah,Af (by omega)]
 rw [Ad (show ((x:Int)>1114111) by omega),Ai,Ae (by omega)]
theorem Z0w (N:Nat) (s:List UInt8) (i n x k:Nat) (hk:k<3) (hx:x<1099511627776) (hi:i≤4611686018427387904):Z6 N s (i:Int) (n+1) (x:Int) (k:Int) =
  if goes s (i+k) then Z6 N s (i:Int) n ((64 * x+(at8 s (i+k) - 128):Nat):Int) ((k+1:Nat):Int) else some (0,0):=by
 have hb:=Q8q s (i+k);rw [Z6,Ql,Ad (by omega),Ai,show wrap .i64 ((i:Int)+(k:Int))=((i+k:Nat):Int) by rw [w64 _ (by omega)];omega,Qlu,Lh]
 by_cases g:goes s (i+k)
 ·rw [Af g,Af g];show Z6 N s (i:Int) n (wrap .i64 (wrap .i64 (64 * (x:Int))+((at8 s (i+k) - 128:Nat):Int))) (wrap .i64 ((k:Int)+1))=_;rw [w64 (64 * (x:Int)) (by omega),w64 _ (by omega),w64 _ (by omega)]
  congr 1
 rw [Ae g,Ae g];rfl
theorem Qzc (N:Nat) (s:List UInt8) (i n x:Nat):Z6 N s (i:Int) (n+1) (x:Int) ((3:Nat):Int)=if 2048≤x∧Qan x then some ((x:Int),3) else some (0,0):=by
 rw [Z6,Ql,Ab (by omega),Ah,Ql,Xb,Gc,Vv];unfold Qan
 by_cases h1:x<2048
 ·rw [Ad (by omega),Ai,Ae (by omega)]
 rw [Ab (show ¬ ((x:Int)<2048) by omega),Ah]
 by_cases h2:x≤1114111
 ·rw [Ab (show ¬ ((x:Int)>1114111) by omega),Ah]
  by_cases h3:55296≤x
  ·rw [Ad (show ((x:Int)≥55296) by omega),Ai]
   by_cases h4:x≤57343
   ·rw [Ad (show ((x:Int)≤57343) by omega),Ai,Ae (by omega)]
   rw [Ab (show ¬ ((x:Int)≤57343) by omega),Ah,Af (by omega)]
  rw [Ab (show ¬ ((x:Int)≥55296) by omega),Ah,Af (by omega)]
 rw [Ad (show ((x:Int)>1114111) by omega),Ai,Ae (by omega)]
theorem Qwi (N:Nat) (s:List UInt8) (i n x k:Nat) (hk:k<4) (hx:x<1099511627776) (hi:i≤4611686018427387904):Z7 N s (i:Int) (n+1) (x:Int) (k:Int) =
  if goes s (i+k) then Z7 N s (i:Int) n ((64 * x+(at8 s (i+k) - 128):Nat):Int) ((k+1:Nat):Int) else some (0,0):=by
 have hb:=Q8q s (i+k);rw [Z7,Ql,Ad (by omega),Ai,show wrap .i64 ((i:Int)+(k:Int))=((i+k:Nat):Int) by rw [w64 _ (by omega)];omega,Qlu,Lh]
 by_cases g:goes s (i+k)
 ·rw [Af g,Af g];show Z7 N s (i:Int) n (wrap .i64 (wrap .i64 (64 * (x:Int))+((at8 s (i+k) - 128:Nat):Int))) (wrap .i64 ((k:Int)+1))=_;rw [w64 (64 * (x:Int)) (by omega),w64 _ (by omega),w64 _ (by omega)]
  congr 1
 rw [Ae g,Ae g];rfl
theorem Z02 (N:Nat) (s:List UInt8) (i n x:Nat):Z7 N s (i:Int) (n+1) (x:Int) ((4:Nat):Int)=if 65536≤x∧Qan x then some ((x:Int),4) else some (0,0):=by
 rw [Z7,Ql,Ab (by omega),Ah,Ql,Xb,Gc,Vv];unfold Qan
 by_cases h1:x<65536
 ·rw [Ad (by omega),Ai,Ae (by omega)]
 rw [Ab (show ¬ ((x:Int)<65536) by omega),Ah]
 by_cases h2:x≤1114111
 ·rw [Ab (show ¬ ((x:Int)>1114111) by omega),Ah]
  by_cases h3:55296≤x
  ·rw [Ad (show ((x:Int)≥55296) by omega),Ai]
   by_cases h4:x≤57343
   ·rw [Ad (show ((x:Int)≤57343) by omega),Ai,Ae (by omega)]
   rw [Ab (show ¬ ((x:Int)≤57343) by omega),Ah,Af (by omega)]
  rw [Ab (show ¬ ((x:Int)≥55296) by omega),Ah,Af (by omega)]
 rw [Ad (show ((x:Int)>1114111) by omega),Ai,Ae (by omega)]
def ptF (q:Nat×Nat):Int×Int:=if q.1=65533∧q.2=1 then (0,0) else ((q.1:Int),(q.2:Int))
theorem Qid {c w:Nat} (h:¬ (c=65533∧w=1)):ptF (c,w)=((c:Int),(w:Int)):=Ae h
theorem Q6q:ptF (65533,1)=(0,0):=Af ⟨rfl,rfl⟩
def ptR (s:List UInt8) (i:Nat):Int×Int:=ptF (Q6s s i)
theorem Qtn (s:List UInt8) (i:Nat) (hi:i<s.length) (hs:s.length≤4611686018427387904) (M:Nat):W7 (M+5) s (i:Int)=some (ptR s i):=by
 have hb:=Q8q s i;have hb1:=Q8q s (i+1);have hb2:=Q8q s (i+(1+1));have e:=Q93 hi
 have hw:wrap .i64 ((s[i]).toNat:Int)=(at8 s i:Int):=by rw [← e];exact Zk1 _ (by omega)
 unfold W7;rw [Qs hi,Lh,hw];simp only [Ql,Gc];unfold ptR Q6s
 by_cases c1:at8 s i<128
 ·rw [Ad (by omega),Ai,Af c1,Qid (by omega)];rfl
 rw [Ab (show ¬ ((at8 s i:Int)<128) by omega),Ah,Ae c1]
 by_cases c2:at8 s i<192
 ·rw [Ab (show ¬ ((at8 s i:Int)≥192) by omega),Ah,Ab (show ¬ ((at8 s i:Int)≥224) by omega),Ah,Ab (show ¬ ((at8 s i:Int)≥240) by omega),Ah,
   Ae (by omega),Ae (by omega),Ae (by omega),Q6q]
 rw [Ad (show ((at8 s i:Int)≥192) by omega),Ai]
 by_cases c3:at8 s i<224
 ·rw [Ad (show ((at8 s i:Int)<224) by omega),Ai,Ae (c:=224≤at8 s i∧_) (by omega),Ae (c:=240≤at8 s i∧_) (by omega)]
  have h0:wrap .i64 ((at8 s i:Int) - 192)=((at8 s i - 192:Nat):Int):=by rw [w64 _ (by omega)];omega
  rw [h0,show (1:Int)=((1:Nat):Int) from rfl,Z30 _ _ _ _ _ _ (by omega) (by omega) (by omega)]
  by_cases g1:goes s (i+1)
  ·rw [Af g1,show 1+1=2 from rfl,Qzp];have hg:=g1.2
   by_cases c4:128≤64 * (at8 s i - 192)+(at8 s (i+1) - 128)
   ·rw [Af ⟨c4,by unfold Qan;omega⟩,Af ⟨by omega,c3,g1,c4⟩,Qid (by omega)];rfl
   rw [Ae (fun h=>c4 h.1),Ae (fun h=>c4 h.2.2.2),Q6q]
  rw [Ae g1,Ae (fun h=>g1 h.2.2.1),Q6q]
 rw [Ab (show ¬ ((at8 s i:Int)<224) by omega),Ah,Ad (show ((at8 s i:Int)≥224) by omega),Ai,Ae (c:=192≤at8 s i∧_) (by omega)]
 by_cases c5:at8 s i<240
 ·rw [Ad (show ((at8 s i:Int)<240) by omega),Ai,Ae (c:=240≤at8 s i∧_) (by omega)]
  have h0:wrap .i64 ((at8 s i:Int) - 224)=((at8 s i - 224:Nat):Int):=by rw [w64 _ (by omega)];omega
  rw [h0,show (1:Int)=((1:Nat):Int) from rfl,Z0w _ _ _ _ _ _ (by omega) (by omega) (by omega)]
  by_cases g1:goes s (i+1)
  ·have hg1:=g1.2;rw [Af g1,Z0w _ _ _ _ _ _ (by omega) (by omega) (by omega)]
   by_cases g2:goes s (i+2)
   ·have hg2:=g2.2;rw [Af g2,show 1+1+1=3 from rfl,Qzc]
    by_cases c4:2048≤64 * (64 * (at8 s i - 224)+(at8 s (i+1) - 128))+(at8 s (i+2) - 128)∧Qan (64 * (64 * (at8 s i - 224)+(at8 s (i+1) - 128))+(at8 s (i+2) - 128))
    ·rw [Af c4,Af ⟨by omega,c5,g1,g2,c4⟩,Qid (by omega)];rfl
    rw [Ae c4,Ae (fun h=>c4 h.2.2.2.2),Q6q]
   rw [Ae g2,Ae (fun h=>g2 h.2.2.2.1),Q6q]
  rw [Ae g1,Ae (fun h=>g1 h.2.2.1),Q6q]
 rw [Ab (show ¬ ((at8 s i:Int)<240) by omega),Ah,Ad (show ((at8 s i:Int)≥240) by omega),Ai,Ae (c:=224≤at8 s i∧_) (by omega)]
 by_cases c6:at8 s i<248
 ·rw [Ad (show ((at8 s i:Int)<248) by omega),Ai]
  have h0:wrap .i64 ((at8 s i:Int) - 240)=((at8 s i - 240:Nat):Int):=by rw [w64 _ (by omega)];omega
  rw [h0,show (1:Int)=((1:Nat):Int) from rfl,Qwi _ _ _ _ _ _ (by omega) (by omega) (by omega)]
  by_cases g1:goes s (i+1)
  ·have hg1:=g1.2;rw [Af g1,Qwi _ _ _ _ _ _ (by omega) (by omega) (by omega)]
   by_cases g2:goes s (i+2)
   ·have hg2:=g2.2;rw [Af g2,Qwi _ _ _ _ _ _ (by omega) (by omega) (by omega)]
    by_cases g3:goes s (i+3)
    ·have hg3:=g3.2;rw [Af g3,show 1+1+1+1=4 from rfl,Z02]
     by_cases c4:65536≤64 * (64 * (64 * (at8 s i - 240)+(at8 s (i+1) - 128))+(at8 s (i+2) - 128))+(at8 s (i+3) - 128)∧Qan (64 * (64 * (64 * (at8 s i - 240)+(at8 s (i+1) - 128))+(at8 s (i+2) - 128))+(at8 s (i+3) - 128))
     ·rw [Af c4,Af ⟨by omega,c6,g1,g2,g3,c4⟩,Qid (by omega)];rfl
     rw [Ae c4,Ae (fun h=>c4 h.2.2.2.2.2),Q6q]
    rw [Ae g3,Ae (fun h=>g3 h.2.2.2.2.1),Q6q]
   rw [Ae g2,Ae (fun h=>g2 h.2.2.2.1),Q6q]
  rw [Ae g1,Ae (fun h=>g1 h.2.2.1),Q6q]
 rw [Ab (show ¬ ((at8 s i:Int)<248) by omega),Ah,Ae (fun h=>c6 h.2.1),Q6q]
theorem Qsh (s:List UInt8) (i:Nat) (hi:i<s.length) (hs:s.length≤4611686018427387904):Tot (fun N=>W7 N s (i:Int)) (ptR s i):=
 ⟨5,fun N hN=>by obtain ⟨M,rfl⟩:∃ M,N=M+5:=⟨N - 5,by omega⟩;exact Qtn s i hi hs M⟩
theorem Qsy (s:List UInt8) (hs:s.length≤4611686018427387904):Tot (fun N=>Jv N s) (Qyn (Qkh s 0)):=by
 refine TotP.tot ?_;refine Q4z (L:=fun N n (p:Int)=>X6 N s n p) (fun p=>∃ i:Nat,p=(i:Int)∧i≤s.length∧Qkh s i=Qkh s 0) (fun p=>s.length - p.toNat) ?_ 0 ⟨0,rfl,Mi _,rfl⟩
 rintro p ⟨i,rfl,hi,hb0⟩
 show Stp _ _ _ (fun N n=>cond (Q4 .lss (i:Int) (s.length:Int)) _ _);rw [Ql];refine Stp.cond (fun h=>?_) (fun h=>?_)
 ·have hl:i<s.length:=by have:=Aa h;omega
  have hw:=Qnj s i hl
  have hb:Qkh s i=(if (Q6s s i).1=0∨Qpn s i then some i else Qkh s (i+(Q6s s i).2)):=by rw [Qkh,dif_pos hl]
  refine Stp.bind (V:=(· = ptR s i)) ⟨_,rfl,Qsh s i hl hs⟩ ?_
  rintro v rfl
  unfold ptR
  by_cases hn:Qpn s i
  ·rw [Af (.inr hn)] at hb;unfold Qpn at hn;rw [hn,Q6q];refine Stp.ret ?_;rw [← hb0,hb];rfl
  have hp:ptF (Q6s s i)=(((Q6s s i).1:Int),((Q6s s i).2:Int)):=Qid (c:=(Q6s s i).1) (w:=(Q6s s i).2) (fun h=>hn (by unfold Qpn;rw [← h.1,← h.2]));rw [hp,Zv,Zv];refine Stp.cond (fun h2=>by have:=Aa h2;have:=hw.1;omega) (fun _=>?_);refine Stp.cond (fun h0=>?_) (fun h0=>?_)
  ·have h0:(Q6s s i).1=0:=by have:=Aa h0;omega
   refine Stp.ret ?_;rw [← hb0,hb,Af (.inl h0)];rfl
  have h0:(Q6s s i).1≠0:=by have:=Ac h0;omega
  have e:wrap .i64 ((i:Int)+((Q6s s i).2:Int))=((i+(Q6s s i).2:Nat):Int):=by rw [w64 _ (by have:=hw.2.1;omega)];omega
  show Stp _ _ _ (fun N n=>X6 N s n (wrap .i64 ((i:Int)+((Q6s s i).2:Int))));rw [e];refine Stp.go _ ⟨⟨_,rfl,hw.2.1,?_⟩,by have:=hw.1;have:=hw.2.1;simp only [Lw];omega⟩;rw [← hb0,hb,Ae]
  rintro (h | h)
  ·exact h0 h
  exact hn h
 have hl:¬ i<s.length:=by have:=Ac h;omega
 refine Stp.ret ?_;rw [← hb0,Qkh,dif_neg hl];rfl
theorem Qy6 (o:Option Nat):decide (Qyn o<0)=o.isNone:=by
 cases o with
 | none=>rfl
 | some p=>exact Ab (by simp only [Qyn];omega)
theorem Qb0 (s:List UInt8):Tot (fun N=>Wb N s) (Q1z s):=by
 refine TotP.tot ?_;show TotP (fun N=>cond (Q4 .leq (s.length:Int) 65535) _ _) _;rw [Vv];refine TotP.cond (fun h=>?_) (fun h=>?_)
 ·have h:s.length≤65535:=by have:=Aa h;omega
  refine TotP.bindE (Qsy s (by omega)) (.ret ?_);rw [Ql,Qy6];simp [Q1z,h]
 have h:¬ s.length≤65535:=by have:=Ac h;omega
 exact .ret (by simp [Q1z,h])
theorem Qqe (s:List UInt8) (hs:s.length≤maxLen) (c:Nat):Tot (fun N=>Uf N s (c:Int)) (s.any fun b=>b.toNat == c):=by
 have hm:=Q3u;refine TotP.tot ?_;refine Q2s (L:=fun N n i=>Xv N s (c:Int) n i) s.length (fun i=>∀ j (h:j<s.length),j<i→(s[j]).toNat≠c) (fun i hi hj=>?_) (fun hj=>?_) (fun j _ hj=>by omega)
 ·show Stp _ _ _ (fun N n=>cond (Q4 .lss (i:Int) (s.length:Int)) _ _);refine Stp.cond (fun _=>?_) (fun h=>by rw [Ql] at h;have:=Ac h;omega);refine Stp.idx (Qs hi) ?_;rw [Zv];refine Stp.cond (fun h=>?_) (fun h=>?_)
  ·refine Stp.ret (Eq.symm ?_);rw [Cf];exact ⟨s[i],Ly _,by have:=Aa h;simp;omega⟩
  rw [w64 _ (by omega)];refine Stp.go _ ⟨by omega,fun j hj2 hji=>?_⟩
  by_cases e:j=i
  ·subst e;have:=Ac h;omega
  exact hj j hj2 (by omega)
 show Stp _ _ _ (fun N n=>cond (Q4 .lss (s.length:Int) (s.length:Int)) _ _);refine Stp.cond (fun h=>by rw [Ql] at h;have:=Aa h;omega) (fun _=>?_);refine Stp.ret (Eq.symm ?_);rw [Cx];intro b hb;obtain ⟨j,hj2,rfl⟩:=Mr hb;have:=hj j hj2 hj2;simpa using this
theorem Qwq (s:List UInt8):Qt6 s=((s.any fun b=>b.toNat == 43)||(s.any fun b=>b.toNat == 35)):=by
 unfold Qt6
 induction s with
 | nil=>rfl
 | cons b s ih=>simp only [List.any_cons,ih];cases b.toNat == 43<;>cases b.toNat == 35<;>cases (s.any fun b=>b.toNat == 43)<;>cases (s.any fun b=>b.toNat == 35)<;>rfl
theorem Q7n (s:List UInt8) (hs:s.length≤maxLen):Tot (fun N=>Yf N s) (Q09 s):=by
 refine TotP.tot ?_;show TotP (fun N=>cond (G9 .neq s []) _ _) _
 have e:G9 .neq s []=decide (s ≠ []):=by cases s<;>rfl
 rw [e];unfold Q09;rw [Qwq];refine TotP.cond (fun h=>?_) (fun h => .ret (by rw [h];rfl));rw [h];refine TotP.bindE (Qb0 s) ?_;refine TotP.cond (fun h=>?_) (fun h => .ret (by rw [h];rfl));rw [h];refine TotP.bindE (Qqe s hs 43) ?_;refine TotP.cond (fun h=>?_) (fun h => .ret ?_)
 ·refine TotP.bindE (Qqe s hs 35) (.ret ?_)
  have h:(s.any fun b=>b.toNat == 43)=false:=by simpa using h
  rw [h];rfl
 have h:(s.any fun b=>b.toNat == 43)=true:=by simpa using h
 rw [h];rfl
end
end Go.Av
namespace Go.Av
noncomputable section
theorem Qgu {m:Nat} (hm:m≤900) {o:Q3} (ho:few m o) (c n:List UInt8) (hn:n.length≤maxLen):TotP (fun N=>Zo N o c n) (fun r=>few (m+1) r.2):=by
 have weak:few (m+1) o:=⟨Nf ho.1,fun e he=>Nf (ho.2 e he)⟩;unfold Zo;refine TotP.bindE (Q7n n hn) ?_;refine TotP.cond (fun _ => .ret weak) (fun _=>?_);refine TotP.bind (Qgm (by omega) ho c) (fun v hv=>?_);exact Qsx (by omega) c n hv.1 (by rw [hv.2];exact ho)
theorem Qs7 {m:Nat} (hm:m≤900) (c n:List UInt8) (id:Int) {v:List Zh×Q3} (hv:v.1.length≤m) (ho:few m v.2) :
  TotP (fun N=>Qr N c n id v N 0) (fun r=>few (m+1) r.2):=by
 have weak:few (m+1) v.2:=⟨Nf ho.1,fun e he=>Nf (ho.2 e he)⟩;refine Q2s (L:=fun N k s=>Qr N c n id v k s) v.1.length (fun _=>True) (fun i hi _=>?_) (fun _=>?_) trivial
 ·show Stp _ _ _ (fun N k=>cond (Q4 .lss (i:Int) ((Q8 Zh.cells v.1).length:Int)) _ _);rw [Q2k,Ql];refine Stp.cond (fun _=>?_) (fun h=>absurd (Ac h) (by omega));refine Stp.idx (Qs hi) ?_;refine Stp.cond (fun _=>Stp.ret weak) (fun _=>?_);refine Stp.idx (Qs hi) ?_;refine Stp.cond (fun _=>Stp.ret weak) (fun _=>?_);rw [w64 _ (by omega)];exact Stp.go (L:=fun N k s=>Qr N c n id v k s) _ ⟨by omega,trivial⟩
 show Stp _ _ _ (fun N k=>cond (Q4 .lss ((v.1.length:Nat):Int) ((Q8 Zh.cells v.1).length:Int)) _ _);rw [Q2k,Ql];refine Stp.cond (fun h=>absurd (Aa h) (by omega)) (fun _=>Stp.fin ?_);refine TotP.bind (Qk5 (by omega) hv _) (fun w hw=>?_);refine TotP.bind (Qk9 (by omega) ho c hw) (fun u hu=>?_);exact TotP.ret hu
theorem Qfb {m:Nat} (hm:m≤900) {o:Q3} (ho:few m o) (c n:List UInt8) (id:Int) (hn:n.length≤maxLen):TotP (fun N=>Zk N o c n id) (fun r=>few (m+1) r.2):=by
 have weak:few (m+1) o:=⟨Nf ho.1,fun e he=>Nf (ho.2 e he)⟩;unfold Zk;refine TotP.bindE (Q7n n hn) ?_;refine TotP.cond (fun _ => .ret weak) (fun _=>?_);refine TotP.cond (fun _ => .ret weak) (fun _=>?_);refine TotP.cond (fun _ => .ret weak) (fun _=>?_);refine TotP.bind (Qgm (by omega) ho c) (fun v hv=>?_)
 have ho2:few m v.2:=by rw [hv.2];exact ho
 have weak2:few (m+1) v.2:=⟨Nf ho2.1,fun e he=>Nf (ho2.2 e he)⟩;refine Q2s (L:=fun N k s=>Qx N c n id v k s) v.1.length (fun _=>True) (fun i hi _=>?_) (fun _=>?_) trivial
 ·have:=hv.1;show Stp _ _ _ (fun N k=>cond (Q4 .lss (i:Int) ((Q8 Zh.cells v.1).length:Int)) _ _);rw [Q2k,Ql];refine Stp.cond (fun _=>?_) (fun h=>absurd (Ac h) (by omega));refine Stp.idx (Qs hi) ?_;refine Stp.cond (fun _=>Stp.ret weak2) (fun _=>?_);rw [w64 _ (by omega)];exact Stp.go (L:=fun N k s=>Qx N c n id v k s) _ ⟨by omega,trivial⟩
 show Stp _ _ _ (fun N k=>cond (Q4 .lss ((v.1.length:Nat):Int) ((Q8 Zh.cells v.1).length:Int)) _ _);rw [Q2k,Ql];refine Stp.cond (fun h=>absurd (Aa h) (by omega)) (fun _=>Stp.fin ?_);exact Qs7 hm c n id hv.1 ho2
theorem Qxy {R:Reg} (hw:WR R) (c n:List UInt8) (hn:n.length≤maxLen):TotP (fun N=>Q0q N R c n) (· = Qs4 (Q09 n) R c n):=by
 unfold Q0q;refine TotP.bindE (Q86 n hn) ?_;rw [Af hw];exact .ret rfl
theorem Qx0 (R:Reg) (c n:List UInt8) (id:Int) (hn:n.length≤maxLen):TotP (fun N=>Gu N R c n id) (· = Qtr (Q09 n) R c n id):=by
 unfold Gu;exact TotP.bindE (Q86 n hn) (.ret rfl)
theorem Qw7 (l:List Vd) (h:l.length≤30) (N:Nat):Q13 N l=some l:=by
 unfold Q13
 cases l with
 | nil=>rfl
 | cons a l=>
  have e:Nat.beq (a::l).length 0=false:=rfl
  have e2:Nat.ble ((0+(a::l).length+4096) * 24) 17592186044416=true:=by rw [Lu];omega
  rw [e,e2];rfl
end
end Go.Av
namespace Go.Av
noncomputable section
theorem Qyq:Qr6 zPk:=by
 constructor<;>first | exact Mi _ | decide | (intro x hx;cases hx) | (constructor<;>first | exact Mi _ | (intro x hx;cases hx))
def there (p:Int) (e:Qf) (d:Bool) (ty:Int):Qf:=⟨p,1,e.Topic,e.Payload,e.QoS,e.Retain,d,e.ID,[],ty,[],0,zPk,zMk,zFk⟩
theorem LE.there {e:Qf} (h:LE e) (p:Int) (d:Bool) (ty:Int):LE (there p e d ty):=
 ⟨h.topic,h.payload,⟨Mi _,fun x hx=>nomatch hx⟩,Qyq,⟨Mi _,(fun x hx=>nomatch hx),⟨Mi _,Mi _⟩⟩,⟨(fun x hx=>nomatch hx),(by show Q0.szs []<_;decide),(by show Q0.wgts []<_;decide)⟩⟩
theorem LE.szs {e:Qf} (h:LE e):Q0.szs e.Frame.Values<700000000:=Nat.lt_trans h.fb.sz (by decide)
theorem Qr2 {e:Qf} {v:Int} (h:LE e) (hv:Tot (fun N=>W6 N 3 e.Props) v):Tot (fun N=>Yj N e) (Q4m e v):=
 Qz1 (Mo h.topic ml2) h.dg.hops h.dg.node h.pk.l h.szs hv
theorem Z0c:Tot (fun N=>W6 N 3 []) 0:=⟨50,fun N hN=>by obtain ⟨M,rfl⟩:∃ M,N=M+50:=⟨N - 50,by omega⟩;kernel_rfl⟩
theorem Qz2 {e:Qf} {v:Int} (h:LE e) (hv:Tot (fun N=>W6 N 3 e.Props) v) (k:e.Kind=1) :
  Tot (fun N=>Q1e N e ⟨1048576,32⟩) (if Q4m e v≠0 then Q4m e v else if (e.Payload.length:Int)>1048576 then 4 else 0):=by
 refine TotP.tot ?_;unfold Q1e;refine TotP.bindE (v:=true) (.of fun _=>rfl) ?_;refine TotP.cond (fun h=>by cases h) (fun _=>?_);rw [Zv];refine TotP.cond (fun _=>?_) (fun g=>absurd k (Ac g));refine TotP.bindE (Qr2 h hv) ?_;rw [Yc,Xb];refine TotP.cond (fun g => .ret ?_) (fun g=>?_)
 ·rw [Af (Aa g)]
 rw [Ae (Ac g)];refine TotP.cond (fun g => .ret ?_) (fun g => .ret ?_)
 ·rw [Af (Aa g)]
 rw [Ae (Ac g)]
theorem Qtk (R:Reg) (cl:List UInt8) {e:Qf} {v:Int} (h:LE e) (hv:Tot (fun N=>W6 N 3 e.Props) v) (k:e.Kind=1) :
  TotP (fun N=>Wf N R cl e) (fun r=>r.2=R∧(r.1.2=0→e.Proto=3∧(e.Kind=1→Q4m e v=0))):=by
 have hm:=ml2;unfold Wf;rw [Yc];refine TotP.cond (fun _ => .ret ⟨rfl,fun h=>by cases h⟩) (fun g=>?_)
 have p3:e.Proto=3:=by have:=Ac g;omega
 refine TotP.bindE (v:=⟨1048576,32⟩) (.of fun _=>rfl) ?_;refine TotP.bindE (Qz2 h hv k) ?_;rw [Yc];refine TotP.cond (fun g => .ret ⟨rfl,fun h=>absurd h (Aa g)⟩) (fun g=>?_);have c0:=Ac g;have good:e.Proto=3∧(e.Kind=1→Q4m e v=0):=⟨p3,fun _=>Decidable.byContradiction fun hp=>by rw [Af hp] at c0;exact c0 hp⟩;refine TotP.bindE (v:=e.Hops) (.of fun N=>Qw7 _ h.dg.hops N) ?_;have hd:∀ (m:U2),OkM m→m.Type'=12→∀ l,Any (fun N=>Yo N ⟨e.Hops,m⟩ l):=fun m hm k l=>Z0b (d:=⟨e.Hops,m⟩) ⟨h.dg.hops,h.dg.node,hm⟩ k l;have hpub:∀ (f:Qz) (i:Int),OkM ⟨12,f,0,0,0,false,i,e.ID,0,[],e.Payload⟩:=fun f i=>⟨Mi _,Mo h.payload (by decide)⟩
 have fin:∀ (m:U2),OkM m→m.Type'=12→TotP (fun N=>(Wc N).bind fun v33=>(Yo N (⟨e.Hops,m⟩:Qq) v33).bind fun v35=>
   cond (Q4 .neq v35 0) (some (((⟨[],zMk⟩:Qq),v35),R)) (some (((⟨e.Hops,m⟩:Qq),0),R))) (fun r=>r.2=R∧(r.1.2=0→e.Proto=3∧(e.Kind=1→Q4m e v=0))):=fun m hm hk=>by
  refine TotP.bindE (v:=⟨1048576,32⟩) (.of fun _=>rfl) ?_;refine TotP.bind (hd m hm hk _) (fun w _=>?_);exact TotP.cond (fun _ => .ret ⟨rfl,fun _=>good⟩) (fun _ => .ret ⟨rfl,fun _=>good⟩)
 rw [Zv];refine TotP.cond (fun _=>?_) (fun g=>absurd k (Ac g));refine TotP.cond (fun _=>?_) (fun _=>?_)
 ·refine TotP.bind (f:=fun N=>Q0f N ⟨⟩ e.Topic) (V:=fun _=>True) ?_ (fun w _=>?_)
  ·exact TotP.bind (Qo0 _ (Mo h.topic hm)) (fun _ _ => .ret trivial)
  exact TotP.cond (fun _ => .ret ⟨rfl,fun _=>good⟩) (fun _=>fin _ (hpub _ _) rfl)
 refine TotP.cond (fun _=>?_) (fun _=>?_)
 ·refine TotP.bindE (v:=(rID R cl e.Topic,R)) (.of fun _=>rfl) ?_;refine TotP.cond (fun _ => .ret ⟨rfl,fun _=>good⟩) (fun _=>?_);refine TotP.bindE (v:=(Q9x R cl (rID R cl e.Topic).1,R)) (.of fun _=>rfl) ?_;exact TotP.cond (fun _ => .ret ⟨rfl,fun _=>good⟩) (fun _=>fin _ (hpub _ _) rfl)
 refine TotP.bindE (v:=(rID R cl e.Topic,R)) (.of fun _=>rfl) ?_;refine TotP.cond (fun _ => .ret ⟨rfl,fun _=>good⟩) (fun _=>?_);refine TotP.bindE (v:=(Q9x R cl (rID R cl e.Topic).1,R)) (.of fun _=>rfl) ?_;exact TotP.cond (fun _ => .ret ⟨rfl,fun _=>good⟩) (fun _=>fin _ (hpub _ _) rfl)
def pOk (p:Int):Prop:=p=1∨p=2∨p=3∨p=4
inductive To28 (R:Reg) (cl:List UInt8) (e:Qf) (p v:Int):Qf×Int→Prop
 | arg (h:¬ pOk p):To28 R cl e p v (zEk,2)
 | bad (h:pOk p) (h0:Q4m e v≠0):To28 R cl e p v (zEk,Q4m e v)
 | own (h:pOk p) (h0:Q4m e v=0) (he:p=e.Proto):To28 R cl e p v (e,0)
 | loss (h:pOk p) (h0:Q4m e v=0) (he:p≠e.Proto) (why:e.Props ≠ []∨(p≠3∧e.QoS<0)∨(p=3∧((e.Topic.length≠2∧(rID R cl e.Topic).2≠0)∨∃ d:(Qq×Int)×Reg,d.1.2≠0 ∧
   Tot (fun N=>Wf N R cl (there 3 e e.Dup (if e.Topic.length=2 then 2 else if Q9x R cl (rID R cl e.Topic).1=true then 1 else 0))) d))):To28 R cl e p v (zEk,15)
 | plain (h:pOk p) (h0:Q4m e v=0) (he:p≠e.Proto) (hpr:e.Props = []) (h3:p≠3) (hq:0≤e.QoS):To28 R cl e p v (there p e (e.Dup&&decide (e.QoS>0)) 0,0)
 | sn (h:p=3) (h0:Q4m e v=0) (he:p≠e.Proto) (hpr:e.Props = []) (ty:Int) (hpub:Q4m (there 3 e e.Dup ty) 0=0):To28 R cl e p v (there 3 e e.Dup ty,0)
open Classical in
theorem Qh9 {e:Qf} {v:Int} (h:Q4m e v=0):(Q09 e.Topic=true∧PubT e (cq e) (Qi4 e) (Q36 e))∧(e.Packet=zPk∧e.Msg=zMk∧e.Frame=zFk)∧v=0∧e.Kind=1:=by
 unfold Q4m at h
 by_cases h1:(e.Proto=1∨e.Proto=2∨e.Proto=3∨e.Proto=4)∧e.Kind=1
 ·rw [Ae (Ao h1)] at h
  by_cases h2:Q09 e.Topic=false
  ·rw [Af h2] at h;cases h
  rw [Ae h2] at h
  by_cases h3:PubT e (cq e) (Qi4 e) (Q36 e)
  ·rw [Ae (Ao h3)] at h
   by_cases h4:v=0
   ·have hb:=h3.bare;unfold Q36 at hb;exact ⟨⟨by simpa using h2,h3⟩,Aa hb,h4,h1.2⟩
   rw [Af h4] at h;cases h
  rw [Af h3] at h;cases h
 rw [Af h1] at h;cases h
theorem Qvq {e:Qf} {v:Int} (h:LE e) (h0:Q4m e v=0):Tot (fun N=>Vh N e) e:=by
 have hb:=(Qh9 h0).2.1;have h1:=h.props.len;have h2:=h.dg.hops;have h2:e.Hops.length≤30:=h2;exact Qil e (by omega) (by omega) h.pk (by rw [hb.2.2];rfl)
theorem Qmb (R:Reg) (cl:List UInt8) {e:Qf} (p:Int) {v:Int} (h:LE e) (hv:Tot (fun N=>W6 N 3 e.Props) v):TotP (fun N=>Q0e N R cl e p) (fun r=>r.2=R∧To28 R cl e p v r.1):=by
 have gtr:∀ l:List Qk,Q4 .gtr ((Q8 Qk.cells l).length:Int) 0=decide (l ≠ []):=fun l=>by
  rw [Q5,Xb]
  cases l with
  | nil=>rfl
  | cons a l=>rw [Ad (p:=((a::l).length:Int)>0) (by simp only [Mm];omega),Ad (by simp)]
 have plainT:pOk p→p≠3→TotP (fun N=>(Yj N e).bind fun v2=>cond (Q4 .neq v2 0) (some (((zEk),v2),R)) (cond (Q4 .eql p e.Proto) ((Vh N e).bind fun v6=>some ((v6,0),R))
   (cond (Q4 .gtr ((Q8 Qk.cells e.Props).length:Int) 0) (some (((zEk),15),R)) (cond (Q4 .lss e.QoS 0) (some (((zEk),15),R)) (cond e.Dup
   (some ((there p e (Q4 .gtr e.QoS 0) 0,0),R)) (some ((there p e false 0,0),R))))))) (fun r=>r.2=R∧To28 R cl e p v r.1):=fun hp h3=>by
  refine TotP.bindE (Qr2 h hv) ?_;rw [Yc,Zv,gtr,Ql,Xb];refine TotP.cond (fun g => .ret ⟨rfl,.bad hp (Aa g)⟩) (fun g=>?_)
  have h0:Q4m e v=0:=by have:=Ac g;omega
  refine TotP.cond (fun g=>TotP.bindE (Qvq h h0) (.ret ⟨rfl,.own hp h0 (Aa g)⟩)) (fun g=>?_);have he:=Ac g;refine TotP.cond (fun g => .ret ⟨rfl,.loss hp h0 he (.inl (Aa g))⟩) (fun g=>?_)
  have hpr:e.Props = []:=by have:=Ac g;simpa using this
  refine TotP.cond (fun g => .ret ⟨rfl,.loss hp h0 he (.inr (.inl ⟨h3,Aa g⟩))⟩) (fun g=>?_)
  have hq:0≤e.QoS:=by have:=Ac g;omega
  refine TotP.cond (fun g => .ret ⟨rfl,?_⟩) (fun g => .ret ⟨rfl,?_⟩)
  ·have:=To28.plain (R:=R) (cl:=cl) hp h0 he hpr h3 hq;rw [g] at this;exact this
  have:=To28.plain (R:=R) (cl:=cl) hp h0 he hpr h3 hq;rw [g] at this;exact this
 unfold Q0e;refine TotP.cond (fun g=>?_) (fun g1=>?_)
 ·have:p=1:=by simpa using g
  exact plainT (.inl this) (by omega)
 refine TotP.cond (fun g=>?_) (fun g2=>?_)
 ·have:p=2:=by simpa using g
  exact plainT (.inr (.inl this)) (by omega)
 refine TotP.cond (fun g=>?_) (fun g3=>?_)
 ·have p3:p=3:=by simpa using g
  have hp:pOk p := .inr (.inr (.inl p3));refine TotP.bindE (Qr2 h hv) ?_;rw [Yc,Zv,gtr,Zv];refine TotP.cond (fun g => .ret ⟨rfl,.bad hp (Aa g)⟩) (fun g=>?_)
  have h0:Q4m e v=0:=by have:=Ac g;omega
  refine TotP.cond (fun g=>TotP.bindE (Qvq h h0) (.ret ⟨rfl,.own hp h0 (Aa g)⟩)) (fun g=>?_);have he:=Ac g;refine TotP.cond (fun g => .ret ⟨rfl,.loss hp h0 he (.inl (Aa g))⟩) (fun g=>?_)
  have hpr:e.Props = []:=by have:=Ac g;simpa using this
  have ft:∀ ty,TotP (fun N=>Wf N R cl (there 3 e e.Dup ty)) (fun r=>r.2=R∧(r.1.2=0→(there 3 e e.Dup ty).Proto=3∧((there 3 e e.Dup ty).Kind=1→Q4m (there 3 e e.Dup ty) 0=0))):=fun ty=>Qtk R cl (h.there _ _ _) Z0c rfl
  have ret:∀ (ty:Int) (d:(Qq×Int)×Reg),Tot (fun N=>Wf N R cl (there 3 e e.Dup ty)) d→d.2=R∧(d.1.2=0→(there 3 e e.Dup ty).Proto=3∧((there 3 e e.Dup ty).Kind=1→Q4m (there 3 e e.Dup ty) 0=0)) →
    ty=(if e.Topic.length=2 then 2 else if Q9x R cl (rID R cl e.Topic).1=true then 1 else 0) →
    TotP (fun N=>(Wf N R cl (there p e e.Dup ty)).bind fun v30=>cond (Q4 .neq v30.1.2 0) (some (((zEk),15),v30.2)) (some ((there p e e.Dup ty,0),v30.2))) (fun r=>r.2=R∧To28 R cl e p v r.1):=fun ty d hd hq hty=>by
   subst p3;refine TotP.bindE hd ?_;rw [Yc];refine TotP.cond (fun g => .ret ⟨hq.1,.loss hp h0 he (.inr (.inr ⟨rfl,.inr ⟨d,Aa g,by rw [← hty];exact hd⟩⟩))⟩) (fun g => .ret ⟨hq.1,.sn rfl h0 he hpr ty ((hq.2 (by have:=Ac g;omega)).2 rfl)⟩)
  refine TotP.cond (fun g=>?_) (fun g=>?_)
  ·have hl:e.Topic.length=2:=by have:=Aa g;omega
   obtain ⟨d,hq,hd⟩:=ft 2;exact ret 2 d hd hq (by rw [Af hl])
  have hl:¬ e.Topic.length=2:=fun e2=>(Ac g) (by omega);refine TotP.bindE (v:=(rID R cl e.Topic,R)) (.of fun _=>rfl) ?_;rw [Yc];refine TotP.cond (fun g => .ret ⟨rfl,.loss hp h0 he (.inr (.inr ⟨p3,.inl ⟨hl,Aa g⟩⟩))⟩) (fun _=>?_);refine TotP.bindE (v:=(Q9x R cl (rID R cl e.Topic).1,R)) (.of fun _=>rfl) ?_;refine TotP.cond (fun g=>?_) (fun g=>?_)
  ·obtain ⟨d,hq,hd⟩:=ft 1;exact ret 1 d hd hq (by rw [Ae hl,Af g])
  obtain ⟨d,hq,hd⟩:=ft 0;exact ret 0 d hd hq (by rw [Ae hl,Ae (by intro h2;rw [show Q9x R cl (rID R cl e.Topic).1=false from g] at h2;cases h2)])
 refine TotP.cond (fun g=>?_) (fun g4=>?_)
 ·have:p=4:=by simpa using g
  exact plainT (.inr (.inr (.inr this))) (by omega)
 refine .ret ⟨rfl,.arg ?_⟩;simp at g1 g2 g3 g4
 rintro (h | h | h | h)<;>omega
end
end Go.Av
namespace Go.Av
noncomputable section
def Qip (t:List Qe):List (List UInt8×List UInt8×Int):=t.map fun y=>(y.Client,y.Name,y.ID)
def Qvv (t:List Qe) (N:Nat) (i:Int) (c:List Q1) (R:Reg) (go:Int→List Q1→Reg→Option Bool):Option Bool:=
 (idx t i).bind fun y103=>
 cond (Q4 .eql y103.ID 0)
 ((idx t i).bind fun y110=>
 (idx t i).bind fun y112=>
 (Q0q N R y110.Client y112.Name).bind fun v114=>
 (idx t i).bind fun y116=>
 (idx t i).bind fun y118=>
 (Zo N (⟨c⟩:Q3) y116.Client y118.Name).bind fun v120=>
 go (wrap .i64 (i+1)) v120.2.L v114.2)
 ((idx t i).bind fun y128=>
 (idx t i).bind fun y130=>
 (idx t i).bind fun y132=>
 (Gu N R y128.Client y130.Name y132.ID).bind fun v134=>
 (idx t i).bind fun y136=>
 (idx t i).bind fun y138=>
 (idx t i).bind fun y140=>
 (Zk N (⟨c⟩:Q3) y136.Client y138.Name y140.ID).bind fun v142=>
 go (wrap .i64 (i+1)) v142.2.L v134.2)
theorem Qod {t:List Qe} (ht:t.length≤20) (hn:∀ y∈t,y.Name.length≤maxLen) {L:Nat→Nat→Int→List Q1→Reg→Option Bool} {K:Nat→Reg→Option Bool} {Q:Bool→Prop}
  (hL:∀ N n i c R,L N (n+1) i c R=cond (Q4 .lss i (t.length:Int)) (Qvv t N i c R (L N n)) (K N R)) (hK:TotP (fun N=>K N (Qr1 Q09 (Qip t))) Q):TotP (fun N=>L N N 0 [] []) Q:=by
 refine Q4z (S:=Int×List Q1×Reg) (L:=fun N n s=>L N n s.1 s.2.1 s.2.2) (fun s=>∃ i:Nat,s.1=(i:Int)∧i≤t.length∧few i ⟨s.2.1⟩∧s.2.2=Qr1 Q09 (Qip (t.take i))) (fun s=>t.length - s.1.toNat) ?_ (0,[],[]) ⟨0,rfl,Mi _,⟨Li _,fun e h=>by cases h⟩,rfl⟩
 rintro ⟨j,c,R⟩ ⟨i,hj,hi,hf,hR⟩
 simp only at hj hf hR
 subst hj
 have e0:(fun N n=>L N (n+1) (i:Int) c R)=fun N n=>cond (Q4 .lss (i:Int) (t.length:Int)) (Qvv t N i c R (L N n)) (K N R):=by funext N n;exact hL _ _ _ _ _
 show Stp _ _ _ (fun N n=>L N (n+1) (i:Int) c R);rw [e0,Ql];dsimp only;refine Stp.cond (fun h=>?_) (fun h=>?_)
 ·have hlt:i<t.length:=by have:=Aa h;omega
  have hw:WR R:=by rw [hR];exact Qwb _ _
  have hln:=hn _ (Ly hlt)
  have ew:wrap .i64 ((i:Int)+1)=((i+1:Nat):Int):=by rw [w64 _ (by omega)];omega
  have fold:∀ q,Qip (t.take (i+1))=Qip (t.take i) ++ [q]→Qr1 Q09 (Qip (t.take (i+1)))=Qlr Q09 R q:=fun q hq=>by
   rw [hq,Qr1,List.foldl_append,hR];rfl
  have etr:Qip (t.take (i+1))=Qip (t.take i) ++ [(t[i].Client,t[i].Name,t[i].ID)]:=by
   unfold Qip;rw [List.take_add_one,Dg,Lc hlt];rfl
  have hfold:=fold _ etr;refine Stp.idx (Qs hlt) ?_;rw [Zv];refine Stp.cond (fun h0=>?_) (fun h0=>?_)
  ·have h0:=Aa h0;refine Stp.idx (Qs hlt) ?_;refine Stp.idx (Qs hlt) ?_;refine Stp.bind (Qxy hw _ _ hln) (fun v hv=>?_);subst hv;refine Stp.idx (Qs hlt) ?_;refine Stp.idx (Qs hlt) ?_;refine Stp.bind (Qgu (by omega) hf _ _ hln) (fun u hu=>?_);rw [ew];refine Stp.go (L:=fun N n (s:Int×List Q1×Reg)=>L N n s.1 s.2.1 s.2.2) (((i+1:Nat):Int),u.2.L,(Qs4 (Q09 t[i].Name) R t[i].Client t[i].Name).2) ⟨⟨i+1,rfl,hlt,hu,?_⟩,by simp only [Lw];omega⟩;rw [hfold];simp only [Qlr];rw [Af h0]
  have h0:=Ac h0;refine Stp.idx (Qs hlt) ?_;refine Stp.idx (Qs hlt) ?_;refine Stp.idx (Qs hlt) ?_;refine Stp.bind (Qx0 _ _ _ _ hln) (fun v hv=>?_);subst hv;refine Stp.idx (Qs hlt) ?_;refine Stp.idx (Qs hlt) ?_;refine Stp.idx (Qs hlt) ?_;refine Stp.bind (Qfb (by omega) hf _ _ _ hln) (fun u hu=>?_);rw [ew];refine Stp.go (L:=fun N n (s:Int×List Q1×Reg)=>L N n s.1 s.2.1 s.2.2) (((i+1:Nat):Int),u.2.L,(Qtr (Q09 t[i].Name) R t[i].Client t[i].Name t[i].ID).2) ⟨⟨i+1,rfl,hlt,hu,?_⟩,by simp only [Lw];omega⟩;rw [hfold];simp only [Qlr];rw [Ae h0]
 have:i=t.length:=by have:=Ac h;omega
 subst this;refine Stp.fin ?_;rw [hR,Df];exact hK
theorem Qxj (t:List Qe) (ht:t.length≤maxLen):TotP (fun N=>J0 N t) (fun v=>v=true→t.length≤20∧∀ y∈t,y.Name.length≤200):=by
 have hm:=Q3u;refine Q2s (L:=fun N n s=>Yk N t n s) t.length (fun i=>∀ j (h:j<t.length),j<i→(t[j]).Name.length≤200) (fun i hi hj=>?_) (fun hj=>?_) (fun j _ hj=>by omega)
 ·show Stp _ _ _ (fun N n=>cond (Q4 .lss (i:Int) ((Q8 Qe.cells t).length:Int)) _ _);rw [Q5,Ql];refine Stp.cond (fun _=>?_) (fun h=>by have:=Ac h;omega);refine Stp.idx (Qs hi) ?_;refine Stp.cond (fun _=>Stp.ret (fun h=>nomatch h)) (fun _=>?_);refine Stp.idx (Qs hi) ?_;rw [Xb];refine Stp.cond (fun _=>Stp.ret (fun h=>nomatch h)) (fun h1=>?_);have h1:=Ac h1;rw [w64 _ (by omega)];refine Stp.go (L:=fun N n s=>Yk N t n s) _ ⟨by omega,fun j hj' hji=>?_⟩
  by_cases e:j=i
  ·subst e;omega
  exact hj j hj' (by omega)
 show Stp _ _ _ (fun N n=>cond (Q4 .lss (t.length:Int) ((Q8 Qe.cells t).length:Int)) _ _);rw [Q5,Ql];refine Stp.cond (fun h=>by have:=Aa h;omega) (fun _=>Stp.ret (fun h=>?_));rw [Vv] at h;have h:=Aa h;refine ⟨by omega,fun y hy=>?_⟩;obtain ⟨j,hj',rfl⟩:=Mr hy;exact hj j hj' hj'
end
end Go.Av
namespace Go.Av
noncomputable section
theorem Qzw (N:Nat) (h:Vd):Uc N h=some (Qn7 h):=by
 unfold Uc Qn7;rw [Gc,Vv,Gc,Vv]
 by_cases h1:h.Radius≥0<;>by_cases h2:h.Radius≤3<;>by_cases h3:(h.Node.length:Int)≥1<;>by_cases h4:(h.Node.length:Int)≤32<;>simp [h1,h2,h3,h4]<;>omega
section
variable (l:List Vd)
theorem Qwm (h4:l.length≤4) (hn:∀ x∈l,x.Node.length≤32):TotP (fun N=>Vb N ⟨l,Qkj⟩) (fun s=>s.length≤1000):=by
 unfold Vb;refine Q4z (L:=fun N n (q:List UInt8×Int)=>Ym N ⟨l,Qkj⟩ n q.1 q.2) (fun q=>∃ i:Nat,q.2=(i:Int)∧i≤l.length∧q.1.length≤40 * i) (fun q=>l.length - q.2.toNat) ?_ ([],0) ⟨0,rfl,Mi _,Mi _⟩
 rintro ⟨o,s⟩ ⟨i,hs,hi,hq⟩
 simp only at hs hq
 subst hs;show Stp _ _ _ (fun N n=>cond (Q4 .lss (i:Int) ((Q8 Vd.cells l).length:Int)) _ _);rw [Q5,Ql];dsimp only;refine Stp.cond (fun hx=>?_) (fun _=>?_)
 ·have hx:=Aa hx
  have hi:i<l.length:=by omega
  refine Stp.idx (Qs hi) ?_;have hf:=hn _ (Ly hi);generalize l[i]=y at hf
  have e1:wrap .i64 ((i:Int)+1)=((i+1:Nat):Int):=by rw [w64 _ (by omega)];omega
  refine Stp.chk (by rw [Lu];simp;omega) ?_;refine Stp.chk (by rw [Lu];simp;omega) ?_;rw [e1];exact Stp.go (L:=fun N n (q:List UInt8×Int)=>Ym N ⟨l,Qkj⟩ n q.1 q.2) (_,((i+1:Nat):Int)) ⟨⟨i+1,rfl,by omega,by simp;omega⟩,by simp;omega⟩
 refine Stp.bind (V:=fun v=>v=([2,23],0)) ⟨_,rfl,.of fun _=>rfl⟩ (fun v hv=>?_);subst hv;exact Stp.chk (by rw [Lu];simp;omega) (Stp.ret (by simp;omega))
theorem Qwx (hl:l.length≤30):TotP (fun N=>Vg N ⟨l,Qkj⟩ ⟨1048576,32⟩) (fun v=>decide (v=0)=Qam l):=by
 unfold Vg;refine TotP.bindE (v:=true) (.of fun _=>rfl) ?_;refine TotP.cond (fun h=>by cases h) (fun _=>?_);show TotP (fun N=>cond (Q4 .gtr ((Q8 Vd.cells l).length:Int) 4) _ _) _;rw [Q5,Xb];refine TotP.cond (fun h => .ret ?_) (fun h4=>?_)
 ·have h:=Aa h;unfold Qam;rw [Ab (p:=l.length≤4) (by omega)];rfl
 have h4:l.length≤4:=by have:=Ac h4;omega
 refine Q2s (L:=fun N n i=>Yh N ⟨l,Qkj⟩ ⟨1048576,32⟩ n i) l.length (fun i=>∀ j (h:j<l.length),j<i→Qn7 l[j]=true) (fun i hi hj=>?_) (fun hj=>?_) (fun j _ hj=>by omega)
 ·show Stp _ _ _ (fun N n=>cond (Q4 .lss (i:Int) ((Q8 Vd.cells l).length:Int)) _ _);rw [Q5,Ql];refine Stp.cond (fun _=>?_) (fun h=>by have:=Ac h;omega);refine Stp.idx (Qs hi) ?_;refine Stp.bind (V:=fun v=>v=Qn7 l[i]) ⟨_,rfl,.of fun N=>Qzw N _⟩ (fun v hv=>?_);refine Stp.cond (fun h=>Stp.ret ?_) (fun h=>?_)
  ·rw [hv] at h
   have:l.all Qn7=false:=by
    rw [Bool.eq_false_iff];intro hA;have:=Lp.1 hA _ (Ly hi);rw [this] at h;cases h
   unfold Qam;rw [this];simp
  rw [w64 _ (by omega)];refine Stp.go (L:=fun N n i=>Yh N ⟨l,Qkj⟩ ⟨1048576,32⟩ n i) _ ⟨by omega,fun j hj' hji=>?_⟩
  by_cases e:j=i
  ·subst e;rw [hv] at h;exact pB h
  exact hj j hj' (by omega)
 show Stp _ _ _ (fun N n=>cond (Q4 .lss ((l.length:Nat):Int) ((Q8 Vd.cells l).length:Int)) _ _);rw [Q5,Ql]
 have hA:∀ x∈l,Qn7 x=true:=fun x hx=>by
  obtain ⟨j,hj',rfl⟩:=Mr hx;exact hj j hj' hj'
 refine Stp.cond (fun h=>by have:=Aa h;omega) (fun _=>?_)
 have e:Qam l=true:=by unfold Qam;rw [Ad h4,Lp.2 hA];rfl
 rw [e];refine Stp.bind (V:=fun v=>v=0) ⟨_,rfl,.of fun _=>rfl⟩ (fun v hv=>?_);subst hv;refine Stp.cond (fun _=>?_) (fun h=>by cases h);refine Stp.bind (Qwm l h4 fun x hx=>by have:=hA x hx;unfold Qn7 at this;exact (Aa this).2.2.2) (fun s hs=>?_);rw [Xb];exact Stp.cond (fun h=>by have h:(s.length:Int)>1048576:=Aa h;omega) (fun _=>Stp.ret rfl)
end
theorem Qys (l:List Vd) (hl:l.length≤30):Tot (fun N=>Vw N l) (Qam l):=by
 refine TotP.tot ?_;unfold Vw;refine TotP.bindE (v:=⟨1048576,32⟩) (.of fun _=>rfl) ?_;refine TotP.bind (Qwx l hl) (fun v hv => .ret ?_);rw [Zv];exact hv
theorem Z24 (s:List UInt8) (hs:s.length≤maxLen):Any (fun N=>Wx N s):=by
 have hm:=Q3u;unfold Wx;refine Q4z (L:=fun N n (q:Int×Int)=>Yd N s n q.1 q.2) (fun q=>∃ i:Nat,q.2=(i:Int)∧i≤s.length) (fun q=>s.length - q.2.toNat) ?_ (0,0) ⟨0,rfl,Mi _⟩
 rintro ⟨o,j⟩ ⟨i,hj,hi⟩
 simp only at hj
 subst hj;show Stp _ _ _ (fun N n=>cond (Q4 .lss (i:Int) (s.length:Int)) _ _);rw [Ql];dsimp only;refine Stp.cond (fun hx=>?_) (fun _=>Stp.ret trivial);have hx:=Aa hx
 have hi:i<s.length:=by omega
 refine Stp.idx (Qs hi) ?_
 have e1:wrap .i64 ((i:Int)+1)=((i+1:Nat):Int):=by rw [w64 _ (by omega)];omega
 rw [e1];exact Stp.go (L:=fun N n (q:Int×Int)=>Yd N s n q.1 q.2) (_,((i+1:Nat):Int)) ⟨⟨i+1,rfl,by omega⟩,by simp;omega⟩
theorem Qwc (s:List UInt8) (hs:s.length≤maxLen):TotP (fun N=>V9 N s) (fun v=>v.2=Qaq s):=by
 unfold V9 Qaq;rw [Yc];refine TotP.cond (fun h => .ret ?_) (fun h=>?_)
 ·have:¬ s.length=2:=fun e=>(Aa h) (by omega);rw [Ab this];rfl
 have h:s.length=2:=by have:=Ac h;omega
 rw [Ad h];refine TotP.bindE (Q7n s hs) ?_;refine TotP.cond (fun g => .ret (by simpa using g)) (fun g=>?_);exact TotP.bind (Z24 s hs) (fun _ _ => .ret (by simpa using g))
def snB (e:Qf):Bool:=cond (decide (e.Proto≠3)) (decide (e.Type'=0∧e.Hops.length=0)) (Qi4 e)
theorem Zgh {e:Qf} (ht:e.Topic.length≤maxLen) (hl:e.Hops.length≤30):Tot (fun N=>Wn N e) (snB e):=by
 refine TotP.tot ?_;unfold Wn snB Qi4;rw [Yc];refine TotP.cond (fun g=>?_) (fun g=>?_)
 ·rw [g];show TotP _ (fun r=>r=decide (e.Type'=0∧e.Hops.length=0));rw [Zv,Zv,Q5];refine TotP.cond (fun g2 => .ret ?_) (fun g2 => .ret ?_)
  ·have:=Aa g2
   by_cases h:e.Hops.length=0
   ·rw [Ad (by omega),Ad ⟨this,h⟩]
   rw [Ab (by omega),Ab (by omega)]
  have:=Ac g2;rw [Ab (by omega)]
 rw [g];show TotP _ (fun r=>r=(decide (0≤e.Type'∧e.Type'≤2)&&((!(decide (e.Type'=2))||Qaq e.Topic)&&Qam e.Hops)));refine TotP.bind (Qwc _ ht) (fun v hv=>?_);rw [Gc,Vv,Yc,hv];refine TotP.cond (fun g1=>?_) (fun g1 => .ret ?_)
 ·have g1:=Aa g1;refine TotP.cond (fun g2=>?_) (fun g2 => .ret ?_)
  ·have g2:=Aa g2;rw [Ad (p:=0≤e.Type'∧e.Type'≤2) ⟨g1,g2⟩];refine TotP.bindE (Qys _ hl) ?_;refine TotP.cond (fun g3=>?_) (fun g3 => .ret (by rw [g3];simp));rw [g3];refine TotP.cond (fun g4 => .ret ?_) (fun g4 => .ret ?_)
   ·rw [Ab (p:=e.Type'=2) (Aa g4)];rfl
   rw [Ad (p:=e.Type'=2) (by have:=Ac g4;omega)];simp
  have g2:=Ac g2;rw [Ab (p:=0≤e.Type'∧e.Type'≤2) (by omega)];rfl
 have g1:=Ac g1;rw [Ab (p:=0≤e.Type'∧e.Type'≤2) (by omega)];rfl
open Classical in
theorem Z1c {e:Qf} (hpk:Qwt e.Packet) (hs:Q0.szs e.Frame.Values<700000000):Tot (fun N=>X5 N e) (Q36 e):=by
 have key:TotP (fun N=>X5 N e) (fun v=>v=true↔e.Packet=zPk∧e.Msg=zMk∧e.Frame=zFk):=by
  unfold X5;refine TotP.bind (Qbd e.Packet zPk hpk) (fun v hv=>?_);refine TotP.cond (fun g=>?_) (fun g => .ret ⟨fun h=>absurd h (by decide),fun h=>absurd (hv.2 h.1) (by rw [g];decide)⟩)
  refine TotP.cond (fun g2=>?_) (fun g2 => .ret ⟨fun h=>absurd h (by decide),fun h=>absurd ((Qo3 e.Msg zMk).2 h.2.1) (by
   intro h3;have:false=true:=g2.symm.trans h3;cases this)⟩)
  refine TotP.bind (V:=fun v=>v=true↔e.Frame=zFk) ⟨decide (e.Frame=zFk),decide_eq_true_iff,800000000,fun N hN=>Qbk hN _ _ hs⟩ (fun w hw => .ret ⟨fun h=>⟨hv.1 g,(Qo3 e.Msg zMk).1 g2,hw.1 h⟩,fun h=>hw.2 h.2.2⟩)
 obtain ⟨v,hv,ht⟩:=key
 have:v=Q36 e:=by
  unfold Q36
  by_cases h:e.Packet=zPk∧e.Msg=zMk∧e.Frame=zFk
  ·rw [hv.2 h,Ad h]
  rw [Ab h]
  cases v with
  | false=>rfl
  | true=>exact absurd (hv.1 rfl) h
 rw [← this];exact ht
theorem rJ5 {N:Nat} {e:Qf} (hs:Wn N e=some (snB e)) (s:Bool):Y8 N (Qm N e) e s=Qm N e (s||(decide (0<e.Props.length∧e.Proto≠2) || !(snB e))):=by
 have j6:∀ q,Yr N (Qm N e) e q=Qm N e (q || !(snB e)):=fun q=>by
  unfold Yr;rw [hs];cases q<;>rfl
 unfold Y8;simp only [j6,Xb,Yc,Q5]
 cases s with
 | true=>rfl
 | false=>
  show cond (decide ((e.Props.length:Int)>0)) _ _=Qm N e (decide _||_);refine Qc8 (fun g=>?_) (fun g=>?_)
  ·have g:=Aa g
   by_cases h:e.Proto≠2
   ·rw [Ad h,Ad (p:=0<e.Props.length∧e.Proto≠2) ⟨by omega,h⟩]
   rw [Ab h,Ab (p:=0<e.Props.length∧e.Proto≠2) (fun x=>h x.2)]
  rw [Ab (p:=0<e.Props.length∧e.Proto≠2) (by have:=Ac g;omega)]
section
variable {N:Nat} {e:Qf} {b:Bool} {v:Int} (hn:Yf N e.Topic=some (Q09 e.Topic)) (hs:Wn N e=some (snB e)) (hb:X5 N e=some b) (hv:Yq N 3 e.Props=some v)
def Qvp (v:Int) (s:Bool):Option Int:=cond s (some 2) (cond (decide (v≠0)) (some 9) (some 0))
include hv
theorem rJ7 (s:Bool):Zf N e s=Qvp v s:=by
 unfold Zf Qvp;rw [hv];simp only [Lh,Yc]
include hb
theorem rJ4 (s:Bool):Qm N e s=Qvp v (s||(!(decide ((0≤e.Channel∧e.Channel≤65535)∧(e.Channel≠0→e.Proto=4))&&b))):=by
 unfold Qm;simp only [rJ7 hv,hb,Lh,Ql,Xb,Yc]
 cases s with
 | true=>rfl
 | false=>
  show cond (decide (e.Channel<0)) _ _=Qvp v (!(decide _&&b));refine Qc8 (fun g=>?_) (fun g=>?_)
  ·rw [Ab (p:=_∧_) (by have:=Aa g;omega)];rfl
  have g:=Ac g;refine Qc8 (fun g2=>?_) (fun g2=>?_)
  ·rw [Ab (p:=_∧_) (by have:=Aa g2;omega)];rfl
  have g2:=Ac g2;refine Qc8 (fun g3=>?_) (fun g3=>?_)
  ·have g3:=Aa g3;refine Qc8 (fun g4=>?_) (fun g4=>?_)
   ·rw [Ab (p:=(0≤e.Channel∧e.Channel≤65535)∧(e.Channel≠0→e.Proto=4)) (fun h=>Aa g4 (h.2 g3))];rfl
   rw [Ad (p:=_∧_) ⟨by omega,fun _=>by have:=Ac g4;omega⟩];rfl
  rw [Ad (p:=_∧_) ⟨by omega,fun h=>absurd h (Ac g3)⟩];rfl
include hs
def Qln (e:Qf) (b a:Bool):Bool:=(e.Dup&&(!a&&decide (e.Proto≠3)))||(decide (0<e.Props.length∧e.Proto≠2) || !(snB e))||(!(decide ((0≤e.Channel∧e.Channel≤65535)∧(e.Channel≠0→e.Proto=4))&&b))
theorem rJ3 (a s:Bool):Zg N e a s=Qvp v (s||Qln e b a):=by
 unfold Zg;simp only [rJ5 hs,rJ4 hb hv,Yc];unfold Qln
 cases s with
 | true=>rfl
 | false=>cases e.Dup<;>cases a<;>rfl
theorem rJ2 (least:Int) (a:Bool):Zr N e least a=Qvp v (!(decide ((least≤e.QoS∧e.QoS≤2)∧(0≤e.ID∧e.ID≤65535)∧decide (e.ID≠0)=a))||Qln e b a):=by
 unfold Zr;simp only [rJ3 hs hb hv,Yc,Ql,Xb];refine Qc8 (fun g=>?_) (fun g=>?_)
 ·rw [Ab (p:=_∧_) (by have:=Aa g;omega)];rfl
 have g:=Ac g;refine Qc8 (fun g2=>?_) (fun g2=>?_)
 ·rw [Ab (p:=_∧_) (by have:=Aa g2;omega)];rfl
 have g2:=Ac g2;refine Qc8 (fun g3=>?_) (fun g3=>?_)
 ·rw [Ab (p:=_∧_) (by have:=Aa g3;omega)];rfl
 have g3:=Ac g3;refine Qc8 (fun g4=>?_) (fun g4=>?_)
 ·rw [Ab (p:=_∧_) (by have:=Aa g4;omega)];rfl
 have g4:=Ac g4
 by_cases h:decide (e.ID≠0)=a
 ·rw [Ad (p:=_∧_) ⟨by omega,by omega,h⟩,h];simp
 rw [Ab (p:=_∧_) (fun x=>h x.2.2)]
 have:(decide (e.ID≠0) == a)=false:=by simpa using h
 rw [this]
include hn
theorem Zks (hbe:b=Q36 e):Za N e=some (Q4m e v):=by
 have j1:∀ l,Yt N e l=Zr N e l (cq e):=fun l=>by
  unfold Yt cq;rw [Zv,Zv];cases decide (e.QoS=1)<;>rfl
 have j0:∀ s,Zs N e s=cond s (some 2) (cond (!(Q09 e.Topic)) (some 10) (Zr N e (if e.Proto=3 then -1 else 0) (cq e))):=fun s=>by
  unfold Zs;rw [hn];simp only [Lh,j1,Zv]
  cases s with
  | true=>rfl
  | false=>
   show cond (!Q09 e.Topic) _ _=cond (!Q09 e.Topic) _ _
   congr 1
   refine Qc8 (fun g=>?_) (fun g=>?_)
   ·rw [Af (Aa g)]
   rw [Ae (Ac g)]
 have top:Za N e=Zs N e (!(decide ((e.Proto=1∨e.Proto=2∨e.Proto=3∨e.Proto=4)∧e.Kind=1))):=by
  unfold Za;rw [Ql,Xb,Yc];refine Qc8 (fun g=>?_) (fun g=>?_)
  ·rw [Ab (p:=_∧_) (by have:=Aa g;omega)];rfl
  have g:=Ac g;refine Qc8 (fun g2=>?_) (fun g2=>?_)
  ·rw [Ab (p:=_∧_) (by have:=Aa g2;omega)];rfl
  have g2:=Ac g2
  by_cases h:e.Kind=1
  ·rw [Ab (p:=e.Kind≠1) (by omega),Ad (p:=_∧_) ⟨by omega,h⟩];rfl
  rw [Ad (p:=e.Kind≠1) h,Ab (p:=_∧_) (fun x=>h x.2)];rfl
 rw [top,j0,rJ2 hs hb hv];unfold Q4m
 by_cases h1:(e.Proto=1∨e.Proto=2∨e.Proto=3∨e.Proto=4)∧e.Kind=1
 ·rw [Ae (Ao h1),Ad h1]
  cases hw:Q09 e.Topic with
  | false=>rfl
  | true=>
   rw [Ae (show ¬ ((true:Bool)=false) from fun h=>by cases h)];show Qvp v _=_
   have key:(!(decide (((if e.Proto=3 then -1 else 0)≤e.QoS∧e.QoS≤2)∧(0≤e.ID∧e.ID≤65535)∧decide (e.ID≠0)=cq e))||Qln e b (cq e))=false↔PubT e (cq e) (Qi4 e) (Q36 e):=by
    unfold Qln;simp only [Bool.or_eq_false_iff,Bool.not_eq_false',Ag,Lb,Ch,An];constructor
    ·rintro ⟨⟨q1,q2,q3⟩,⟨q4,q5,q6⟩,q7,q8⟩
     refine ⟨h1.1,h1.2,?_,q2,q3.symm,fun d=>?_,fun hp=>?_,fun p3=>?_,fun p3=>?_,q7.1,q7.2,by rw [← hbe];exact q8⟩
     ·by_cases p3:e.Proto=3
      ·rw [Af p3] at q1;by_cases e.QoS = -1
       ·exact .inr ⟨p3,by assumption⟩
       exact .inl (by omega)
      rw [Ae p3] at q1;exact .inl q1
     ·rcases q4 with q4 | q4 | q4
      ·rw [q4] at d;cases d
      ·exact .inl (by cases hc:cq e with
       | true=>rfl
       | false=>rw [hc] at q4;cases q4)
      exact .inr (by omega)
     ·exact Decidable.byContradiction fun hh=>q5 ⟨hp,hh⟩
     ·unfold snB at q6;rw [Ab (p:=e.Proto≠3) (by omega)] at q6;exact q6
     unfold snB at q6;rw [Ad (p:=e.Proto≠3) p3] at q6;exact Aa q6
    rintro ⟨p1,p2,p3,p4,p5,p6,p7,p8,p9,p10,p11,p12⟩
    refine ⟨⟨?_,p4,p5.symm⟩,⟨?_,?_,?_⟩,⟨p10,p11⟩,by rw [hbe];exact p12⟩
    ·by_cases q:e.Proto=3
     ·rw [Af q];omega
     rw [Ae q];omega
    ·cases hd:e.Dup with
     | false=>exact .inl rfl
     | true=>
      rcases p6 hd with h | h
      ·exact .inr (.inl (by rw [h]))
      exact .inr (.inr (by omega))
    ·exact fun x=>x.2 (p7 x.1)
    unfold snB
    by_cases q:e.Proto=3
    ·rw [Ab (p:=e.Proto≠3) (by omega)];exact p8 q
    rw [Ad (p:=e.Proto≠3) q];exact Ad (p9 q)
   by_cases h2:PubT e (cq e) (Qi4 e) (Q36 e)
   ·rw [Ae (Ao h2),key.2 h2];unfold Qvp
    by_cases h3:v=0
    ·rw [Ae (Ao h3),Ab (p:=v≠0) (by omega)];rfl
    rw [Af h3,Ad (p:=v≠0) h3];rfl
   rw [Af h2]
   have:(!(decide (((if e.Proto=3 then -1 else 0)≤e.QoS∧e.QoS≤2)∧(0≤e.ID∧e.ID≤65535)∧decide (e.ID≠0)=cq e))||Qln e b (cq e))=true:=by
    cases hh:(!(decide (((if e.Proto=3 then -1 else 0)≤e.QoS∧e.QoS≤2)∧(0≤e.ID∧e.ID≤65535)∧decide (e.ID≠0)=cq e))||Qln e b (cq e)) with
    | true=>rfl
    | false=>exact absurd (key.1 hh) h2
   rw [this];rfl
 rw [Af h1,Ab h1];rfl
end
theorem Qsj {e:Qf} {v:Int} (h:LE e) (hv:Tot (fun N=>Yq N 3 e.Props) v):Tot (fun N=>Za N e) (Q4m e v):=by
 obtain ⟨N1,hn⟩:=Q7n e.Topic (Mo h.topic ml2);obtain ⟨N2,hs⟩:=Zgh (e:=e) (Mo h.topic ml2) h.dg.hops;obtain ⟨N3,hb⟩:=Z1c h.pk.l h.szs;obtain ⟨N4,hv⟩:=hv;exact ⟨max (max N1 N2) (max N3 N4),fun N hN=>Zks (hn N (by omega)) (hs N (by omega)) (hb N (by omega)) (hv N (by omega)) rfl⟩
end
end Go.Av
namespace Go.Av
noncomputable section
open Classical in
theorem Qqy {e:Qf} {v p:Int} (h0:Q4m e v=0) (hp:pOk p) (h3:p≠3) (hq:0≤e.QoS):Q4m (there p e (e.Dup&&decide (e.QoS>0)) 0) 0=0:=by
 obtain ⟨⟨hn,hP⟩,_,_,_⟩:=Qh9 h0
 have hP':PubT (there p e (e.Dup&&decide (e.QoS>0)) 0) (cq (there p e (e.Dup&&decide (e.QoS>0)) 0)) (Qi4 (there p e (e.Dup&&decide (e.QoS>0)) 0)) (Q36 (there p e (e.Dup&&decide (e.QoS>0)) 0)):=by
  refine ⟨hp,rfl,?_,hP.id,hP.cid,fun d=>?_,fun h=>absurd h (Nat.lt_irrefl 0),fun h=>absurd h h3,fun _=>⟨rfl,rfl⟩,⟨Int.le_refl 0,by show (0:Int)≤65535;decide⟩,fun h=>absurd rfl h,?_⟩
  ·rcases hP.qos with h | h
   ·exact .inl h
   omega
  ·refine .inl ?_;have d:(e.Dup&&decide (e.QoS>0))=true:=d;have hd:=Aa (Bool.and_eq_true_iff.1 d).2
   have:e.QoS=1∨e.QoS=2:=by rcases hP.qos with h | h<;>omega
   show cond (decide (e.QoS=1)) true (decide (e.QoS=2))=true
   rcases this with h | h<;>rw [h]<;>rfl
  unfold Q36;exact Ad ⟨rfl,rfl,rfl⟩
 unfold Q4m;rw [Ae (Ao ⟨hp,rfl⟩),Ae (show ¬ Q09 (there p e (e.Dup&&decide (e.QoS>0)) 0).Topic=false by show ¬ Q09 e.Topic=false;rw [hn];decide),Ae (Ao hP'),Ae (Ao rfl)]
theorem Ql1:Tot (fun N=>Yq N 3 []) 0:=by
 first | exact .of fun N=>rfl | exact ⟨50,fun N hN=>by obtain ⟨M,rfl⟩:∃ M,N=M+50:=⟨N - 50,by omega⟩;kernel_rfl⟩
theorem LE.oks6 {e:Qf} (h:LE e):Z8j e:=⟨by have:=h.props.len;have:=ml2;omega,by have:=h.dg.hops;have:=ml2;have h2:e.Hops.length≤30:=h.dg.hops;omega,h.pk.l,h.szs⟩
theorem Z27 {e:Qf} (h:Qca e):OkE e:=⟨h.Topic_ok,h.Props_ok.1,h.Packet_ok.Filters_ok.1,h.Packet_ok.Props_ok.1,h.Packet_ok.Will_ok.Props_ok.1⟩
end
end Go.Av
namespace Go.Av
noncomputable section
theorem TotP.and {R:Type} {f:Nat→Option R} {P Q:R→Prop} (h1:TotP f P) (h2:TotP f Q):TotP f (fun r=>P r∧Q r):=by
 obtain ⟨a,pa,N1,ha⟩:=h1;obtain ⟨b,qb,N2,hb⟩:=h2;have e:=(ha (max N1 N2) (by omega)).symm.trans (hb (max N1 N2) (by omega));cases e;exact ⟨a,⟨pa,qb⟩,N1,ha⟩
def okR (sh least most:Int) (p:Qk):Bool:=if sh≤4 then decide ((p.Text = []∧p.Value = [])∧least≤p.N'∧p.N'≤most) else
 decide (p.N'=0∧(sh=7∨p.Value = []))&&(if sh=6 then decide (p.Text.length≤65535) else (Q1z p.Text&&Q1z p.Value)&&(!(decide (p.ID=8))||Q09 p.Text))
def Qz0 (k:Int):Bool:=Q4 .eql (Qbn .i64 (Qkl .i64 k 3) 1) 1
theorem Qum (r:Qt) (p:Qk) (h1:p.Text.length≤maxLen):TotP (fun N=>Gy N r 3 p) (fun v=>decide (v=0)=(Qz0 r.kinds&&okR r.shape r.least r.most p)):=by
 have n9:decide ((9:Int)=0)=false:=rfl;have n2:decide ((2:Int)=0)=false:=rfl;have n6:decide ((6:Int)=0)=false:=rfl;have n0:decide ((0:Int)=0)=true:=rfl;unfold Gy okR;refine TotP.bindE (v:=Qz0 r.kinds) (.of fun _=>rfl) ?_;refine TotP.cond (fun g => .ret ?_) (fun g=>?_)
 ·rw [nB g];rfl
 rw [pB g,Bg];rw [Vv,Yc,Yc,Zv,Xb,Zv,Q6i];refine TotP.cond (fun g1=>?_) (fun g1=>?_)
 ·rw [Af (Aa g1)];refine TotP.bind (V:=fun v=>decide (v=0)=decide ((p.Text = []∧p.Value = [])∧r.least≤p.N'∧p.N'≤r.most)) ?_ (fun v hv => .ret hv);unfold Gh;rw [Q6i,Q6i,Ql,Xb];refine TotP.cond (fun g => .ret ?_) (fun g=>?_)
  ·rw [n2,Ab (fun x=>Aa g x.1.1)]
  have t0:=Decidable.byContradiction fun x=>Ac g x;refine TotP.cond (fun g => .ret ?_) (fun g=>?_)
  ·rw [n2,Ab (fun x=>Aa g x.1.2)]
  have v0:=Decidable.byContradiction fun x=>Ac g x;refine TotP.cond (fun g => .ret ?_) (fun g=>?_)
  ·rw [n9,Ab (fun x=>by have:=Aa g;omega)]
  refine TotP.cond (fun g' => .ret ?_) (fun g' => .ret ?_)
  ·rw [n9,Ab (fun x=>by have:=Aa g';omega)]
  have a:=Ac g;have b:=Ac g';rw [n0,Ad ⟨⟨t0,v0⟩,by omega,by omega⟩]
 rw [Ae (Ac g1)];refine TotP.cond (fun g => .ret ?_) (fun g=>?_)
 ·rw [n2,Ab (p:=_∧_) (fun x=>Aa g x.1)];rfl
 have z0:p.N'=0:=Decidable.byContradiction fun x=>Ac g x
 have six:(r.shape=7∨p.Value = [])→TotP (fun N=>cond (decide (r.shape=6)) (cond (decide ((p.Text.length:Int)>65535)) (some (2:Int)) (some 0)) ((Yy N p.Text).bind fun v12=>cond (!v12) (some (6:Int)) ((Yy N p.Value).bind fun v15=>cond (!v15) (some 6) (cond (decide (p.ID=8)) ((X4 N p.Text).bind fun v19=>cond (!v19) (some 9) (some 0)) (some 0)))))
   (fun v=>decide (v=0)=(decide (p.N'=0∧(r.shape=7∨p.Value = []))&&(if r.shape=6 then decide (p.Text.length≤65535) else (Q1z p.Text&&Q1z p.Value)&&(!(decide (p.ID=8))||Q09 p.Text)))):=fun hs=>by
  rw [Ad (p:=p.N'=0∧_) ⟨z0,hs⟩,Bg];refine TotP.cond (fun g=>?_) (fun g=>?_)
  ·rw [Af (Aa g)];refine TotP.cond (fun g2 => .ret ?_) (fun g2 => .ret ?_)
   ·rw [n2,Ab (by have:=Aa g2;omega)]
   rw [n0,Ad (by have:=Ac g2;omega)]
  rw [Ae (Ac g)];refine TotP.bindE (Qdn _) (TotP.cond (fun g => .ret (by rw [nB g];rfl)) (fun g=>?_));rw [pB g];refine TotP.bindE (Qdn _) (TotP.cond (fun g => .ret (by rw [nB g];rfl)) (fun g=>?_));rw [pB g];refine TotP.cond (fun g=>?_) (fun g => .ret (by rw [g];rfl));rw [g];exact TotP.bindE (Q86 _ h1) (TotP.cond (fun g => .ret (by rw [nB g];rfl)) (fun g => .ret (by rw [pB g];rfl)))
 refine TotP.cond (fun g=>?_) (fun g=>?_)
 ·refine TotP.cond (fun g2 => .ret ?_) (fun g2=>?_)
  ·have a:¬ r.shape=7:=Aa g2;have b:¬ p.Value = []:=Aa g;rw [n2,Ab (p:=p.N'=0∧(r.shape=7∨p.Value = [])) (fun x=>x.2.elim a b)];rfl
  exact six (.inl (Decidable.byContradiction fun x=>Ac g2 x))
 exact six (.inr (Decidable.byContradiction fun x=>Ac g x))
theorem Qs1 (sh least most:Int) (ks:List Int) (p:Qk) (h1:p.Text.length≤maxLen):TotP (fun N=>cond (Q4 .leq sh 4)
  (cond (G9 .neq p.Text []) (Qi N p ⟨sh,ks,least,most⟩ true) (cond (Q4 .neq sh 7) (Qi N p ⟨sh,ks,least,most⟩ (G9 .neq p.Value [])) (Qi N p ⟨sh,ks,least,most⟩ false)))
  (cond (Q4 .neq p.N' 0) (Qi N p ⟨sh,ks,least,most⟩ true) (cond (Q4 .neq sh 7) (Qi N p ⟨sh,ks,least,most⟩ (G9 .neq p.Value [])) (Qi N p ⟨sh,ks,least,most⟩ false))))
  (fun v=>((sh≤4∧p.ID≠8)∨(sh=5∨sh=7)∨(sh=6∧p.ID≠8))→decide (v=0)=okR sh least most p):=by
 have n9:decide ((9:Int)=0)=false:=rfl;have n2:decide ((2:Int)=0)=false:=rfl;have n6:decide ((6:Int)=0)=false:=rfl;have n0:decide ((0:Int)=0)=true:=rfl
 have j5:∀ b,TotP (fun N=>Xg N b) (fun v=>decide (v=0) = !b):=fun b=>by
  unfold Xg;exact TotP.cond (fun g => .ret (by rw [g];rfl)) (fun g => .ret (by rw [g];rfl))
 have j4:∀ s,TotP (fun N=>Xf N p ⟨sh,ks,least,most⟩ s) (fun v=>decide (v=0)=(!s && !(decide (sh=6)&&decide ((p.Text.length:Int)>65535)))):=fun s=>by
  unfold Xf;refine TotP.cond (fun g => .ret (by rw [g];rfl)) (fun g=>?_);rw [g];show TotP (fun N=>cond (Q4 .eql sh 6) _ _) _;rw [Zv,Xb];exact TotP.cond (fun g=>by rw [g];exact j5 _) (fun g=>by rw [g];exact j5 _)
 have j3:∀ s,TotP (fun N=>Yi N p ⟨sh,ks,least,most⟩ s) (fun v=>decide (v=0)=(!s&&((!(decide (p.ID=8))||Q09 p.Text) && !(decide (sh=6)&&decide ((p.Text.length:Int)>65535))))):=fun s=>by
  unfold Yi;refine TotP.cond (fun g => .ret (by rw [g];rfl)) (fun g=>?_);rw [g,Zv];refine TotP.cond (fun g=>?_) (fun g=>?_)
  ·rw [g];refine TotP.bindE (Q7n _ h1) ((j4 _).mono fun v hv=>?_);rw [hv];simp
  rw [g]
  exact (j4 _).mono fun v hv=>by rw [hv];simp
 have j2:∀ t,TotP (fun N=>Y6 N p ⟨sh,ks,least,most⟩ t) (fun v=>decide (v=0)=((!t||(Q1z p.Text&&Q1z p.Value))&&((!(decide (p.ID=8))||Q09 p.Text) && !(decide (sh=6)&&decide ((p.Text.length:Int)>65535))))):=fun t=>by
  unfold Y6;refine TotP.cond (fun g=>?_) (fun g=>?_)
  ·rw [g];refine TotP.bindE (Qb0 _) ?_;refine TotP.cond (fun g=>?_) (fun g=>?_)
   ·rw [nB g]
    exact (j3 _).mono fun v hv=>by rw [hv];simp
   rw [pB g];refine TotP.bindE (Qb0 _) ((j3 _).mono fun v hv=>?_);rw [hv];simp
  rw [g]
  exact (j3 _).mono fun v hv=>by rw [hv];simp
 have j1:∀ s,TotP (fun N=>Zd N p ⟨sh,ks,least,most⟩ s) (fun v=>decide (v=0)=(!s&&((!(decide (sh=5∨sh=7))||(Q1z p.Text&&Q1z p.Value))&&((!(decide (p.ID=8))||Q09 p.Text) && !(decide (sh=6)&&decide ((p.Text.length:Int)>65535)))))):=fun s=>by
  unfold Zd;refine TotP.cond (fun g => .ret (by rw [g];rfl)) (fun g=>?_);rw [g];show TotP (fun N=>cond (Q4 .eql sh 5) (Y6 N p ⟨sh,ks,least,most⟩ true) (Y6 N p ⟨sh,ks,least,most⟩ (Q4 .eql sh 7))) _;rw [Zv,Zv];refine TotP.cond (fun g=>?_) (fun g=>?_)
  ·rw [Ad (p:=sh=5∨sh=7) (.inl (Aa g))]
   exact (j2 _).mono fun v hv=>by rw [hv];simp
  have e:decide (sh=5∨sh=7)=decide (sh=7):=by
   have:=Ac g
   by_cases h:sh=7
   ·rw [Ad h,Ad (.inr h)]
   rw [Ab h,Ab (fun x=>x.elim this h)]
  rw [e]
  exact (j2 _).mono fun v hv=>by rw [hv];simp
 have j0:∀ s,TotP (fun N=>Qi N p ⟨sh,ks,least,most⟩ s) (fun v=>decide (v=0)=(!s&&(!(decide (sh≤4)&&decide (p.N'<least∨p.N'>most))&&((!(decide (sh=5∨sh=7))||(Q1z p.Text&&Q1z p.Value))&&((!(decide (p.ID=8))||Q09 p.Text) && !(decide (sh=6)&&decide ((p.Text.length:Int)>65535))))))):=fun s=>by
  unfold Qi;refine TotP.cond (fun g => .ret (by rw [g];rfl)) (fun g=>?_);rw [g];show TotP (fun N=>cond (Q4 .leq sh 4) (cond (Q4 .lss p.N' least) (Zd N p ⟨sh,ks,least,most⟩ true) (Zd N p ⟨sh,ks,least,most⟩ (Q4 .gtr p.N' most))) (Zd N p ⟨sh,ks,least,most⟩ false)) _;rw [Vv,Ql,Xb];refine TotP.cond (fun g=>?_) (fun g=>?_)
  ·rw [g];refine TotP.cond (fun g=>?_) (fun g=>?_)
   ·rw [Ad (p:=p.N'<least∨p.N'>most) (.inl (Aa g))]
    exact (j1 _).mono fun v hv=>by rw [hv];simp
   have e:decide (p.N'<least∨p.N'>most)=decide (p.N'>most):=by
    have:=Ac g
    by_cases h:p.N'>most
    ·rw [Ad h,Ad (.inr h)]
    rw [Ab h,Ab (fun x=>x.elim this h)]
   rw [e]
   exact (j1 _).mono fun v hv=>by rw [hv];simp
  rw [g]
  exact (j1 _).mono fun v hv=>by rw [hv];simp
 rw [Vv,Q6i,Yc,Yc,Q6i]
 have key:∀ b:Bool,b=(decide ((sh≤4∧p.Text ≠ [])∨(¬ sh≤4∧p.N'≠0)∨(sh≠7∧p.Value ≠ [])))→TotP (fun N=>Qi N p ⟨sh,ks,least,most⟩ b) (fun v=>((sh≤4∧p.ID≠8)∨(sh=5∨sh=7)∨(sh=6∧p.ID≠8))→decide (v=0)=okR sh least most p):=fun b hb=>(j0 b).mono fun v hv hs=>by
  rw [hv,hb];unfold okR
  rcases hs with ⟨c,h8⟩ | c | ⟨c,h8⟩
  ·have c5:¬ (sh=5∨sh=7):=by omega
   have c6:¬ sh=6:=by omega
   have c7:sh≠7:=by omega
   rw [Af c,Ab c5,Ab c6,Ab h8,Ad c,Bl];simp only [Ca,Bool.true_or,Dj,Bg,Dk,Lb,Nd,An,Ag];constructor
   ·rintro ⟨a,b⟩
    exact ⟨⟨Decidable.byContradiction fun x=>a (.inl ⟨c,x⟩),Decidable.byContradiction fun x=>a (.inr (.inr ⟨c7,x⟩))⟩,by omega,by omega⟩
   rintro ⟨⟨a,b⟩,d,e⟩
   exact ⟨fun x=>by rcases x with x | x | x;exact x.2 a;exact x.1 c;exact x.2 b,by omega⟩
  ·have c4:¬ sh≤4:=by omega
   have c6:¬ sh=6:=by omega
   rw [Ae c4,Ae c6,Ad c,Ab c6,Ab c4,Bl];simp only [Nt,Ca,Bf,Dj,Bg,Dk,Lb,Nd,An,Ag];constructor
   ·rintro ⟨a,b,d⟩
    exact ⟨⟨Decidable.byContradiction fun x=>a (.inr (.inl ⟨c4,x⟩)),Decidable.byContradiction fun x=>a (.inr (.inr ⟨fun y=>x (.inl y),fun y=>x (.inr y)⟩))⟩,b,d⟩
   rintro ⟨⟨a,b⟩,d,e⟩
   exact ⟨fun x=>by rcases x with x | x | x;exact c4 x.1;exact x.2 a;exact b.elim x.1 x.2,d,e⟩
  have c4:¬ sh≤4:=by omega
  have c5:¬ (sh=5∨sh=7):=by omega
  have c7:sh≠7:=by omega
  rw [Ae c4,Af c,Ad c,Ab c5,Ab c4,Ab h8,Bl];simp only [Nt,Ca,Bool.true_or,Dj,Bg,Dk,Lb,Nd,An,Ag];constructor
  ·rintro ⟨a,b⟩
   exact ⟨⟨Decidable.byContradiction fun x=>a (.inr (.inl ⟨c4,x⟩)),Decidable.byContradiction fun x=>a (.inr (.inr ⟨c7,fun y=>x (.inr y)⟩))⟩,by omega⟩
  rintro ⟨⟨a,b⟩,d⟩
  exact ⟨fun x=>by rcases x with x | x | x;exact c4 x.1;exact x.2 a;exact b.elim x.1 x.2,by omega⟩
 refine TotP.cond (fun g=>?_) (fun g=>?_)
 ·have g:=Aa g;refine TotP.cond (fun t=>key _ (Ad (p:=_∨_) (.inl ⟨g,Aa t⟩)).symm) (fun t=>?_);have t:p.Text = []:=Decidable.byContradiction fun x=>Ac t x;refine TotP.cond (fun u=>key _ ?_) (fun u=>key _ ?_)
  ·have u:sh≠7:=Aa u
   by_cases w:p.Value = []
   ·rw [Ab (p:=p.Value ≠ []) (fun x=>x w),Ab (p:=_∨_) (fun x=>by rcases x with x | x | x;exact x.2 t;exact x.1 g;exact x.2 w)]
   rw [Ad (p:=p.Value ≠ []) w,Ad (p:=_∨_) (.inr (.inr ⟨u,w⟩))]
  have u:sh=7:=Decidable.byContradiction fun x=>Ac u x;omega
 have g:=Ac g;refine TotP.cond (fun t=>key _ (Ad (p:=_∨_) (.inr (.inl ⟨g,Aa t⟩))).symm) (fun t=>?_);have t:p.N'=0:=Decidable.byContradiction fun x=>Ac t x;refine TotP.cond (fun u=>key _ ?_) (fun u=>key _ ?_)
 ·have u:sh≠7:=Aa u
  by_cases w:p.Value = []
  ·rw [Ab (p:=p.Value ≠ []) (fun x=>x w),Ab (p:=_∨_) (fun x=>by rcases x with x | x | x;exact g x.1;exact x.2 t;exact x.2 w)]
  rw [Ad (p:=p.Value ≠ []) w,Ad (p:=_∨_) (.inr (.inr ⟨u,w⟩))]
 have u:sh=7:=Decidable.byContradiction fun x=>Ac u x;rw [Ab (p:=_∨_) (fun x=>by rcases x with x | x | x;exact g x.1;exact x.2 t;exact x.1 u)]
def iOk (p:Qk):Bool:=match Q3o F_prop_rules_tab p.ID with
 | none=>false
 | some r=>Qz0 r.kinds&&okR r.shape r.least r.most p
def Quv (id:Int) (w:Q7):Bool:=match Q3o F_prop_rules_tab id with
 | none => !(w.kinds.contains 3)
 | some r=>(w.kinds.contains 3 == Qz0 r.kinds)&&(!(Qz0 r.kinds)||(decide (w.shape=r.shape∧w.least=r.least∧w.most=r.most)&&decide ((w.shape≤4∧id≠8)∨(w.shape=5∨w.shape=7)∨(w.shape=6∧id≠8))))
theorem Qlc (id:Int):∃ w:Q7,(∀ N,Yg N id=some w)∧Quv id w=true∧w.kinds.length≤30:=by
 by_cases h1:id=1
 ·subst h1;exact ⟨_,fun _=>rfl,by decide,by decide⟩
 by_cases h2:id=2
 ·subst h2;exact ⟨_,fun _=>rfl,by decide,by decide⟩
 by_cases h3:id=3
 ·subst h3;exact ⟨_,fun _=>rfl,by decide,by decide⟩
 by_cases h8:id=8
 ·subst h8;exact ⟨_,fun _=>rfl,by decide,by decide⟩
 by_cases h9:id=9
 ·subst h9;exact ⟨_,fun _=>rfl,by decide,by decide⟩
 by_cases h11:id=11
 ·subst h11;exact ⟨_,fun _=>rfl,by decide,by decide⟩
 by_cases h17:id=17
 ·subst h17;exact ⟨_,fun _=>rfl,by decide,by decide⟩
 by_cases h18:id=18
 ·subst h18;exact ⟨_,fun _=>rfl,by decide,by decide⟩
 by_cases h26:id=26
 ·subst h26;exact ⟨_,fun _=>rfl,by decide,by decide⟩
 by_cases h19:id=19
 ·subst h19;exact ⟨_,fun _=>rfl,by decide,by decide⟩
 by_cases h21:id=21
 ·subst h21;exact ⟨_,fun _=>rfl,by decide,by decide⟩
 by_cases h22:id=22
 ·subst h22;exact ⟨_,fun _=>rfl,by decide,by decide⟩
 by_cases h23:id=23
 ·subst h23;exact ⟨_,fun _=>rfl,by decide,by decide⟩
 by_cases h25:id=25
 ·subst h25;exact ⟨_,fun _=>rfl,by decide,by decide⟩
 by_cases h24:id=24
 ·subst h24;exact ⟨_,fun _=>rfl,by decide,by decide⟩
 by_cases h28:id=28
 ·subst h28;exact ⟨_,fun _=>rfl,by decide,by decide⟩
 by_cases h31:id=31
 ·subst h31;exact ⟨_,fun _=>rfl,by decide,by decide⟩
 by_cases h33:id=33
 ·subst h33;exact ⟨_,fun _=>rfl,by decide,by decide⟩
 by_cases h34:id=34
 ·subst h34;exact ⟨_,fun _=>rfl,by decide,by decide⟩
 by_cases h35:id=35
 ·subst h35;exact ⟨_,fun _=>rfl,by decide,by decide⟩
 by_cases h36:id=36
 ·subst h36;exact ⟨_,fun _=>rfl,by decide,by decide⟩
 by_cases h37:id=37
 ·subst h37;exact ⟨_,fun _=>rfl,by decide,by decide⟩
 by_cases h40:id=40
 ·subst h40;exact ⟨_,fun _=>rfl,by decide,by decide⟩
 by_cases h41:id=41
 ·subst h41;exact ⟨_,fun _=>rfl,by decide,by decide⟩
 by_cases h42:id=42
 ·subst h42;exact ⟨_,fun _=>rfl,by decide,by decide⟩
 by_cases h38:id=38
 ·subst h38;exact ⟨_,fun _=>rfl,by decide,by decide⟩
 by_cases h39:id=39
 ·subst h39;exact ⟨_,fun _=>rfl,by decide,by decide⟩
 refine ⟨⟨0,[],0,0⟩,fun N=>?_,?_,by decide⟩
 ·unfold Yg;simp only [Zv,Ab h1,Ab h2,Ab h3,Ab h8,Ab h9,Ab h11,Ab h17,Ab h18,Ab h26,Ab h19,Ab h21,Ab h22,Ab h23,Ab h25,Ab h24,Ab h28,Ab h31,Ab h33,Ab h34,Ab h35,Ab h36,Ab h37,Ab h40,Ab h41,Ab h42,Ab h38,Ab h39,Ah]
 have:Q3o F_prop_rules_tab id=none:=by
  cases hl:Q3o F_prop_rules_tab id with
  | none=>rfl
  | some r=>
   exfalso
   have hall:(F_prop_rules_tab.all fun q => [1,2,3,8,9,11,17,18,26,19,21,22,23,25,24,28,31,33,34,35,36,37,40,41,42,38,39].contains q.1)=true:=by decide +kernel
   have:=Lp.1 hall _ (Qdk hl);simp at this;omega
 unfold Quv;rw [this];rfl
theorem Qvl (w:Q7) (hw:w.kinds.length≤30):Tot (fun N=>Y2 N 3 w N 0) (w.kinds.contains 3):=by
 refine TotP.tot ?_;refine Q2s (L:=fun N n i=>Y2 N 3 w n i) w.kinds.length (fun i=>∀ j (h:j<w.kinds.length),j<i→w.kinds[j]≠3) (fun i hi hj=>?_) (fun hj=>?_) (fun j _ hj=>by omega)
 ·show Stp _ _ _ (fun N n=>cond (Q4 .lss (i:Int) ((Q8 (cI .i64) w.kinds).length:Int)) _ _);rw [Q5,Ql];refine Stp.cond (fun _=>?_) (fun h=>by have:=Ac h;omega);refine Stp.idx (Qs hi) ?_;rw [Zv];refine Stp.cond (fun h=>Stp.ret ?_) (fun h=>?_)
  ·exact (Ni.2 (by rw [← Aa h];exact Ly hi)).symm
  rw [w64 _ (by omega)];refine Stp.go (L:=fun N n i=>Y2 N 3 w n i) _ ⟨by omega,fun j hj' hji=>?_⟩
  by_cases e:j=i
  ·subst e;exact Ac h
  exact hj j hj' (by omega)
 show Stp _ _ _ (fun N n=>cond (Q4 .lss (w.kinds.length:Int) ((Q8 (cI .i64) w.kinds).length:Int)) _ _);rw [Q5,Ql];refine Stp.cond (fun h=>by have:=Aa h;omega) (fun _=>Stp.ret ?_)
 cases hc:w.kinds.contains 3 with
 | false=>rfl
 | true=>
  obtain ⟨j,hj',e⟩:=Mr (Ni.1 hc);exact absurd e (hj j hj' hj')
theorem Qxm (p:Qk) (h1:p.Text.length≤maxLen):TotP (fun N=>Vf N 3 p) (fun v=>decide (v=0)=iOk p):=by
 obtain ⟨w,hw,ho,hl⟩:=Qlc p.ID;unfold Vf Xz
 have hm:Tot (fun N=>(Yg N p.ID).bind fun v1=>Y2 N 3 v1 N 0) (w.kinds.contains 3):=by
  refine TotP.tot (TotP.bindE (.of hw) ?_);obtain ⟨N,h⟩:=Qvl w hl;exact ⟨_,rfl,N,h⟩
 refine TotP.bindE hm ?_;unfold Quv at ho;unfold iOk
 cases hr:Q3o F_prop_rules_tab p.ID with
 | none=>
  rw [hr] at ho;dsimp only at ho ⊢;refine TotP.cond (fun _ => .ret rfl) (fun g=>?_);rw [pB g] at ho;exact absurd (show false=true from ho) (by decide)
 | some r=>
  rw [hr] at ho;dsimp only at ho ⊢;simp only [Lb,Aj] at ho;obtain ⟨e,ho⟩:=ho;refine TotP.cond (fun g => .ret ?_) (fun g=>?_)
  ·rw [← e,nB g];rfl
  rw [pB g] at e;rw [← e] at ho ⊢;simp only [Nt,Bf,Lb,Ag] at ho;obtain ⟨⟨s1,s2,s3⟩,ho⟩:=ho;refine TotP.bindE (.of hw) ?_;refine (Qs1 w.shape w.least w.most w.kinds p h1).mono fun v hv=>?_;rw [hv ho,s1,s2,s3];rfl
end
end Go.Av
namespace Go.Av
noncomputable section
def oft (id:Int):Bool:=decide (id=38)||decide (id=11)
def Pre (l:List Qk) (i:Nat):Prop:=∀ j (h:j<l.length),j<i→iOk l[j]=true∧(oft l[j].ID=true∨∀ k (hk:k<j),(l[k]'(by omega)).ID≠l[j].ID)
def Vl (l:List Qk):Prop:=Pre l l.length
theorem Pre.step {l:List Qk} {i:Nat} (h:Pre l i) (hi:i<l.length) (h1:iOk l[i]=true) (h2:oft l[i].ID=true∨∀ k (hk:k<i),(l[k]'(by omega)).ID≠l[i].ID):Pre l (i+1):=fun j hj hji=>by
 by_cases e:j=i
 ·subst e;exact ⟨h1,h2⟩
 exact h j hj (by omega)
theorem Vl.no1 {l:List Qk} {i:Nat} (hi:i<l.length) (h1:iOk l[i]=false):¬ Vl l:=fun h=>by
 have:=(h i hi hi).1;rw [h1] at this;cases this
theorem Vl.no2 {l:List Qk} {i:Nat} (hi:i<l.length) (h1:oft l[i].ID=false) (h2:∃ k,∃ hk:k<i,(l[k]'(by omega)).ID=l[i].ID):¬ Vl l:=fun h=>by
 obtain ⟨k,hk,e⟩:=h2
 rcases (h i hi hi).2 with x | x
 ·rw [h1] at x;cases x
 exact x k hk e
def cnt (l:List Qk) (q:Int):Nat:=l.countP (fun p=>decide (p.ID=q))
theorem Qr9 {l:List Qk} {i:Nat} (hi:i≤l.length) {q:Int}:0<cnt (l.take i) q↔∃ k,∃ hk:k<i,(l[k]'(by omega)).ID=q:=by
 unfold cnt;rw [List.countP_pos_iff];constructor
 ·rintro ⟨p,hp,e⟩
  obtain ⟨k,hk,rfl⟩:=Mr hp
  have hk2:k<i:=by rw [Me] at hk;omega
  refine ⟨k,hk2,?_⟩;rw [Cc] at e;exact Aa e
 rintro ⟨k,hk,e⟩
 have hk2:k<(l.take i).length:=by rw [Me];omega
 refine ⟨(l.take i)[k],Ly hk2,?_⟩;rw [Cc];exact Ad e
theorem Qul {l:List Qk} {i:Nat} (hi:i<l.length) (q:Int):cnt (l.take (i+1)) q=cnt (l.take i) q+(if l[i].ID=q then 1 else 0):=by
 unfold cnt;rw [List.take_add_one,Lc hi,List.countP_append]
 congr 1
 show List.countP _ [l[i]]=_
 by_cases h:l[i].ID=q
 ·simp [h]
 simp [h]
theorem Qkc (x:Int):TotP (fun N=>U8 N x) (fun r=>r.1.length≤4∧(0≤x∧x≤268435455→r.2=0)):=by
 show TotP (fun N=>(Q2q N x).bind _) _
 have hm:∀ N,Q2q N x=some (decide (0≤x)&&decide (x≤268435455)):=fun N=>by
  show cond (Q4 .geq x 0) (some (Q4 .leq x 268435455)) (some false)=_;rw [Gc,Vv]
  by_cases h:0≤x
  ·rw [Ad (p:=x≥0) h];rfl
  rw [Ab (p:=x≥0) h];rfl
 refine TotP.bindE (.of hm) ?_;refine TotP.cond (fun h => .ret ⟨by simp,fun hx=>?_⟩) (fun h=>?_)
 ·exfalso;simp at h;omega
 have h:0≤x∧x≤268435455:=by simpa using h
 have:=Q4z (L:=fun N n' (p:Int×List Int)=>V1 N n' p.1 p.2) (Q:=fun r:List UInt8×Int=>r.1.length≤4∧(0≤x∧x≤268435455→r.2=0)) (fun p=>0≤p.1∧((p.2.length=0∧p.1<268435456)∨(p.2.length=1∧p.1<2097152)∨(p.2.length=2∧p.1<16384)∨(p.2.length=3∧p.1<128))) (fun p=>p.1.toNat)
  ?_ (x,[]) ⟨h.1,by simp;omega⟩
 ·exact this
 rintro ⟨s,l⟩ ⟨h1,h2⟩
 simp only at h1 h2
 show Stp _ _ _ (fun N n'=>cond (Q4 .geq s 128) _ _);rw [Gc];refine Stp.cond (fun h=>?_) (fun h=>?_)
 ·have h:=Aa h;refine Stp.chk (by rw [Lu];dsimp only;omega) ?_;have e:s.tdiv 128=s / 128:=Int.tdiv_eq_ediv_of_nonneg h1;rw [e,w64 _ (by omega)];refine Stp.go (L:=fun N n' (p:Int×List Int)=>V1 N n' p.1 p.2) (_,_) ⟨⟨by simp only;omega,by simp only [Lq,Mm,Na];omega⟩,by simp only;omega⟩
 refine Stp.chk (by rw [Lu];dsimp only;omega) ?_;exact Stp.ret ⟨by simp;omega,fun _=>rfl⟩
theorem Qp5 (x:Int):TotP (fun N=>U8 N x) (fun r=>r.1.length≤4):=(Qkc x).mono fun _ h=>h.1
theorem Qfv (s:List UInt8) (hs:s.length≤300):TotP (fun N=>Uu N s) (fun v=>v.1.length≤302):=by
 unfold Uu Q0s;rw [Xb];refine TotP.cond (fun g=>absurd (Aa g) (by omega)) (fun _=>?_);refine TotP.bind (V:=fun v=>v.length≤302) ?_ (fun v hv => .ret hv);refine TotP.bind (Qci _ 2 (by omega) (by omega)) (fun v hv=>?_);exact TotP.chk (by rw [Lu];omega) (.ret (by rw [Lq];omega))
theorem Qqi (s:Int) (p:Qk) (h1:p.Text.length≤300) (h2:p.Value.length≤300):TotP (fun N=>Jm N s p) (fun l=>l.length≤700):=by
 refine TotP.cond (fun _=>TotP.bind (Q7w _ _) (fun v hv => .ret (by omega))) (fun _=>?_);refine TotP.cond (fun _=>TotP.bind (Q7w _ _) (fun v hv => .ret (by omega))) (fun _=>?_);refine TotP.cond (fun _=>TotP.bind (Q7w _ _) (fun v hv => .ret (by omega))) (fun _=>?_);refine TotP.cond (fun _=>TotP.bind (Qp5 _) (fun v hv => .ret (by omega))) (fun _=>?_);refine TotP.bind (Qfv _ h1) (fun v hv=>?_);refine TotP.cond (fun _ => .ret (by omega)) (fun _=>?_);refine TotP.bind (Qfv _ h2) (fun w hw=>?_);exact TotP.chk (by rw [Lu];omega) (.ret (by simp only [Lq];omega))
def Quz (l:List Qk) (N n:Nat) (p:Int×List Int×List Int):Option (List UInt8×Int):=Zl N 3 l n p.1 p.2.1 p.2.2
set_option maxRecDepth 20000 in
open Classical in
theorem Qoc (l:List Qk) (hl:l.length≤30) (hp:∀ p∈l,p.Text.length≤300∧p.Value.length≤300):TotP (fun N=>Zl N 3 l N 0 (List.replicate 64 0) []) (fun r=>decide (r.2=0)=decide (Vl l)):=by
 have hml:300≤maxLen:=by unfold maxLen;decide
 have hf:∀ {e:Int},e≠0→¬ Vl l→decide (e=0)=decide (Vl l):=fun h1 h2=>by rw [Ab h1,Ab h2]
 have:=Q4z (L:=Quz l) (Q:=fun r=>decide (r.2=0)=decide (Vl l)) (fun p=>∃ i:Nat,p.1=(i:Int)∧i≤l.length∧(∃ hb:p.2.1.length=64,∀ (q:Nat) (hq:q<64),p.2.1[q]=((cnt (l.take i) (q:Int):Nat):Int))∧p.2.2.length≤i * 701∧Pre l i) (fun p=>l.length - p.1.toNat)
  ?_ (0,List.replicate 64 0,[]) ⟨0,rfl,by omega,⟨Bo,fun q hq=>by rw [List.getElem_replicate];simp [cnt]⟩,by simp,fun j _ h=>absurd h (Nat.not_lt_zero _)⟩
 ·exact this
 rintro ⟨s,b,o⟩ ⟨i,hs,hi,⟨hb,hc⟩,ho,hP⟩
 simp only at hs hb hc ho
 subst hs;show Stp _ _ _ (fun N n'=>cond (Q4 .lss (i:Int) ((Q8 Qk.cells l).length:Int)) _ _);rw [Q5,Ql];refine Stp.cond (fun h=>?_) (fun h=>?_)
 ·have h:=Aa h
  have hi:i<l.length:=by omega
  refine Stp.idx (Qs hi) ?_;have hT:=hp _ (Ly hi);have n1:=fun h1=>Vl.no1 (l:=l) hi h1;have n2:=fun h1 h2=>Vl.no2 (l:=l) hi h1 h2;have hst:=fun h1 h2=>hP.step hi h1 h2;have hcs:=fun q=>Qul (l:=l) hi q;have hcp:=fun q=>Qr9 (l:=l) (i:=i) (by omega) (q:=q);generalize l[i]=y at hT n1 n2 hst hcs
  have e1:wrap .i64 ((i:Int)+1)=((i+1:Nat):Int):=by rw [w64 _ (by omega)];omega
  have go:∀ (b' o':List Int),(∃ hb:b'.length=64,∀ (q:Nat) (hq:q<64),b'[q]=((cnt (l.take (i+1)) (q:Int):Nat):Int))→o'.length≤(i+1) * 701→Pre l (i+1)→Stp (Quz l) (fun s'=>(∃ i:Nat,s'.1=(i:Int)∧i≤l.length∧(∃ hb:s'.2.1.length=64,∀ (q:Nat) (hq:q<64),s'.2.1[q]=((cnt (l.take i) (q:Int):Nat):Int))∧s'.2.2.length≤i * 701∧Pre l i)∧l.length - s'.1.toNat<l.length - (i:Int).toNat) (fun r=>decide (r.2=0)=decide (Vl l))
    (fun N n=>Zl N 3 l n (wrap .i64 ((i:Int)+1)) b' o'):=by
   intro b' o' g1 g2 g3;rw [e1];exact Stp.go (L:=Quz l) ((i+1:Nat),b',o') ⟨⟨i+1,rfl,by omega,g1,g2,g3⟩,by simp only [Lw];omega⟩
  show Stp _ _ _ (fun N n=>optC (Q3o F_prop_rules_tab y.ID) _ _)
  cases hk:Q3o F_prop_rules_tab y.ID with
  | none=>
   refine Stp.optN ?_;refine Stp.bind (V:=(· = 9)) ⟨9,rfl,Qut y⟩ (fun v hv=>?_);subst hv;exact Stp.cond (fun _=>Stp.ret (hf (by decide) (n1 (by unfold iOk;rw [hk])))) (fun h=>nomatch h)
  | some r=>
   have hid:=Qug hk;obtain ⟨q,hk'⟩:∃ q:Nat,y.ID=(q:Int):=⟨y.ID.toNat,by omega⟩
   have hk64:q<64:=by omega
   refine Stp.optS ?_;refine Stp.bind (Qum r y (by omega)) (fun v hv=>?_)
   have hv:decide (v=0)=iOk y:=by unfold iOk;rw [hk];exact hv
   rw [Yc];refine Stp.cond (fun g=>Stp.ret ?_) (fun g=>?_)
   ·have g:=Aa g;exact hf g (n1 (by rw [← hv];exact Ab g))
   have hok:iOk y=true:=by rw [← hv];exact Ad (by have:=Ac g;omega)
   refine Stp.chk (by rw [hk'];simp only [Lb,Ag];omega) ?_;rw [hk'];refine Stp.idx (Qs (show q<b.length by omega)) ?_;refine Stp.idx (Qs (show q<b.length by omega)) ?_;refine Stp.idx (Qs (show q<(b.set _ _).length by rw [Mt];omega)) ?_;have hbq:=hc q hk64
   have hle:cnt (l.take i) (q:Int)≤30:=by
    unfold cnt;exact Mo List.countP_le_length (by rw [Me];omega)
   have ew:wrap .i64 (b[q]+1)=b[q]+1:=w64 _ (by omega)
   have hb':∃ hb:(b.set (Int.toNat (q:Int)) (wrap .i64 (b[q]+1))).length=64,∀ (q':Nat) (hq:q'<64),(b.set (Int.toNat (q:Int)) (wrap .i64 (b[q]+1)))[q']=((cnt (l.take (i+1)) (q':Int):Nat):Int):=by
    refine ⟨by rw [Mt];exact hb,fun q' hq'=>?_⟩;rw [hcs,hk'];simp only [Lw,ew]
    by_cases e:q'=q
    ·subst e;rw [List.getElem_set_self,Af rfl,hbq];omega
    rw [List.getElem_set_ne (fun x=>e x.symm),Ae (fun x=>e (by omega)),hc q' hq'];omega
   have tail:(oft y.ID=true∨∀ k (hk:k<i),(l[k]'(by omega)).ID≠y.ID)→Stp (Quz l) (fun s'=>(∃ i:Nat,s'.1=(i:Int)∧i≤l.length∧(∃ hb:s'.2.1.length=64,∀ (q:Nat) (hq:q<64),s'.2.1[q]=((cnt (l.take i) (q:Int):Nat):Int))∧s'.2.2.length≤i * 701∧Pre l i)∧l.length - s'.1.toNat<l.length - (i:Int).toNat) (fun r=>decide (r.2=0)=decide (Vl l))
     (fun N n=>cond (Nat.ble ((o.length+1+4096) * 1) 17592186044416) ((Jm N r.shape y).bind fun v130=>
      cond (Nat.beq v130.length 0)
      (Zl N 3 l n (wrap .i64 ((i:Int)+1)) (b.set (Int.toNat (q:Int)) (wrap .i64 (b[q]+1))) (o ++ [(wrap .u8 (q:Int))]))
      (cond (Nat.ble (((o.length+1)+v130.length+4096) * 1) 17592186044416) (Zl N 3 l n (wrap .i64 ((i:Int)+1)) (b.set (Int.toNat (q:Int)) (wrap .i64 (b[q]+1))) ((o ++ [(wrap .u8 (q:Int))])++(v130.map fun b=>(b.toNat:Int)))) none)) none):=fun h2=>by
    refine Stp.chk (by rw [Lu];omega) ?_;refine Stp.bind (Qqi _ _ hT.1 hT.2) (fun v hv=>?_);refine Stp.cond (fun _=>?_) (fun _=>?_)
    ·refine go _ _ ?_ ?_ ?_
     ·exact hb'
     ·rw [Lq,Mq];omega
     exact hst hok h2
    refine Stp.chk (by rw [Lu];omega) ?_;refine go _ _ ?_ ?_ ?_
    ·exact hb'
    ·rw [Lq,Lq,Mq,Mf];omega
    exact hst hok h2
   have e3:(b.set (Int.toNat (q:Int)) (wrap .i64 (b[q]+1)))[q]'(by rw [Mt];omega)=b[q]+1:=by
    simp only [Lw];rw [List.getElem_set_self,ew]
   rw [e3,Xb];refine Stp.cond (fun g=>?_) (fun g=>tail (.inr fun k hk e=>?_))
   ·have g:=Aa g;refine Stp.bind (V:=fun v=>v=oft y.ID) ⟨_,rfl,.of fun N=>?_⟩ (fun v hv=>?_)
    ·show cond (Q4 .eql (q:Int) 38) (some true) (cond (Q4 .eql (q:Int) 11) (some (Q4 .eql 3 3)) (some false))=some (oft y.ID);rw [Zv,Zv,hk'];unfold oft;cases decide ((q:Int)=38)<;>cases decide ((q:Int)=11)<;>rfl
    subst hv;refine Stp.cond (fun g2=>Stp.ret (hf (by decide) (n2 (nB g2) ?_))) (fun g2=>tail (.inl (pB g2)));rw [hk'];exact (hcp _).1 (by omega)
   have:=(hcp (q:Int)).2 ⟨k,hk,e.trans hk'⟩;have g:=Ac g;omega
 have e:i=l.length:=by have:=Ac h;omega
 subst e;refine Stp.fin ?_;have hV:Vl l:=hP
 have c22:b[22]=0:=by
  rw [hc 22 (by omega)]
  have:¬ 0<cnt (l.take l.length) ((22:Nat):Int):=fun x=>by
   obtain ⟨k,hk,e⟩:=(Qr9 (Li _)).1 x;have:=(hV k hk hk).1;unfold iOk at this;rw [e] at this;exact Bool.noConfusion (show false=true from this)
  omega
 have vb:TotP (fun N=>(U8 N (o.length:Int)).bind fun v169=>cond (Q4 .neq v169.2 0) (some (([]:List UInt8),(4:Int))) (cond (Nat.ble (v169.1.length+(o.map fun n=>UInt8.ofNat n.toNat).length) 4611686018427387904) (some ((v169.1++(o.map fun n=>UInt8.ofNat n.toNat)),(0:Int))) none)) (fun r=>decide (r.2=0)=decide (Vl l)):=by
  refine TotP.bind (Qkc _) (fun v hv=>?_);rw [hv.2 (by omega)];refine TotP.cond (fun g=>absurd (show false=true from g) (by decide)) (fun _=>?_);exact TotP.chk (by rw [Lu,Mf];have:=hv.1;omega) (.ret (by rw [Ad hV];rfl))
 refine TotP.idx (Qs (show 22<b.length by omega)) ?_;rw [c22];exact TotP.cond (fun g=>absurd (show false=true from g) (by decide)) (fun _=>vb)
open Classical in
theorem Qu4 (l:List Qk) (hl:l.length≤30) (hp:∀ p∈l,p.Text.length≤300∧p.Value.length≤300):TotP (fun N=>W6 N 3 l) (fun v=>decide (v=0)=decide (Vl l)):=by
 unfold W6 Q4j;rw [Q5,Xb];refine TotP.bind (V:=fun r=>decide (r.2=0)=decide (Vl l)) ?_ (fun r hr => .ret hr);exact TotP.cond (fun g=>absurd (Aa g) (by omega)) (fun _=>Qoc l hl hp)
end
end Go.Av
namespace Go.Av
noncomputable section
theorem Qw5 (l:List Qk) (hl:l.length≤30) (id:Int):TotP (fun N=>W0 N l id) (fun v=>v.2=true↔∃ p∈l,p.ID=id):=by
 unfold W0;refine Q2s (L:=fun N n i=>X7 N l id n i) l.length (fun i=>∀ j (h:j<l.length),j<i→l[j].ID≠id) (fun i hi hj=>?_) (fun hj=>?_) (fun j _ hj=>by omega)
 ·show Stp _ _ _ (fun N n=>cond (Q4 .lss (i:Int) ((Q8 Qk.cells l).length:Int)) _ _);rw [Q5,Ql];refine Stp.cond (fun _=>?_) (fun h=>by have:=Ac h;omega);refine Stp.idx (Qs hi) ?_;rw [Zv];refine Stp.cond (fun h=>?_) (fun h=>?_)
  ·refine Stp.idx (Qs hi) (Stp.ret ⟨fun _=>⟨_,Ly hi,Aa h⟩,fun _=>rfl⟩)
  rw [w64 _ (by omega)];refine Stp.go (L:=fun N n i=>X7 N l id n i) _ ⟨by omega,fun j hj' hji=>?_⟩
  by_cases e:j=i
  ·subst e;exact Ac h
  exact hj j hj' (by omega)
 show Stp _ _ _ (fun N n=>cond (Q4 .lss (l.length:Int) ((Q8 Qk.cells l).length:Int)) _ _);rw [Q5,Ql];refine Stp.cond (fun h=>by have:=Aa h;omega) (fun _=>Stp.ret ⟨fun h=>Bool.noConfusion (show false=true from h),fun ⟨p,hp,e⟩=>?_⟩);obtain ⟨j,hj',rfl⟩:=Mr hp;exact absurd e (hj j hj' hj')
theorem Z2d (p:Qk) (h:iOk p=true):Tot (fun N=>Xz N 3 p.ID) true:=by
 obtain ⟨w,hw,ho,hl⟩:=Qlc p.ID
 have hc:w.kinds.contains 3=true:=by
  unfold Quv at ho;unfold iOk at h
  cases hr:Q3o F_prop_rules_tab p.ID with
  | none=>rw [hr] at h;exact Bool.noConfusion (show false=true from h)
  | some r=>
   rw [hr] at ho h;dsimp only at ho h;rw [Lb] at h;simp only [Lb,Aj] at ho;rw [ho.1,h.1]
 refine TotP.tot ?_;unfold Xz;refine TotP.bindE (.of hw) ?_;rw [← hc];obtain ⟨N,hN⟩:=Qvl w hl;exact ⟨_,rfl,N,hN⟩
theorem Qwj (l:List Qk) (hl:l.length≤30) (p:Qk) (h:iOk p=true):TotP (fun N=>Vc N 3 l p.ID) (fun v=>v=true↔(oft p.ID=false∧∃ q∈l,q.ID=p.ID)):=by
 unfold Vc;refine TotP.bind (Qw5 l hl p.ID) (fun v hv=>?_);refine TotP.cond (fun g=>?_) (fun g => .ret ⟨fun x=>Bool.noConfusion (show false=true from x),fun x=>by rw [hv.2 x.2] at g;cases g⟩);refine TotP.bindE (v:=oft p.ID) (TotP.tot ?_) (.ret ⟨fun x=>⟨nB x,hv.1 g⟩,fun x=>by rw [x.1];rfl⟩);unfold Jb;refine TotP.bindE (Z2d p h) ?_;refine TotP.cond (fun _=>?_) (fun g=>by cases g);rw [Zv,Zv];unfold oft;refine TotP.cond (fun g => .ret (by rw [g];rfl)) (fun g=>?_);rw [g];exact TotP.cond (fun g => .ret (by rw [g];rfl)) (fun g => .ret (by rw [g];rfl))
theorem Qrd (n:Int) (i0:Int) (h0 : -1≤i0∧i0≤15):TotP (fun N=>Zi N n N i0 []) (fun l=>l.length≤16):=by
 refine Q4z (L:=fun N m (q:Int×List Int)=>Zi N n m q.1 q.2) (fun q => -1≤q.1∧q.1≤15∧(q.2.length:Int)+q.1≤15) (fun q=>(q.1+1).toNat) ?_ (i0,[]) ⟨h0.1,h0.2,by simp;omega⟩
 rintro ⟨i,l⟩ ⟨h1,h2,h3⟩
 simp only at h1 h2 h3
 show Stp _ _ _ (fun N m=>cond (Q4 .geq i 0) (cond (Q4 .lss i 8) _ _) _);dsimp only;rw [Gc,Ql];have e1:wrap .i64 (i - 1)=i - 1:=w64 _ (by omega);rw [e1];refine Stp.cond (fun g=>?_) (fun g=>Stp.ret (by rw [Mf];omega));have g:=Aa g
 have go:∀ x:Int,Stp (fun N m (q:Int×List Int)=>Zi N n m q.1 q.2) (fun q=>(-1≤q.1∧q.1≤15∧(q.2.length:Int)+q.1≤15)∧(q.1+1).toNat<(i+1).toNat) (fun l=>l.length≤16) (fun N m=>Zi N n m (i - 1) (l ++ [x])):=fun x=>
  Stp.go (L:=fun N m (q:Int×List Int)=>Zi N n m q.1 q.2) (i - 1,l ++ [x]) ⟨⟨by show -1≤i - 1;omega,by show i - 1≤15;omega,by show ((l ++ [x]).length:Int)+(i - 1)≤15;rw [Lq,Mq];omega⟩,by show (i - 1+1).toNat<_;omega⟩
 refine Stp.cond (fun g2=>?_) (fun g2=>?_)
 ·have g2:=Aa g2;refine Stp.chk (Ad ?_) ?_
  ·rw [w64 (8 * i) (by omega),Zg9 (by omega)];omega
  exact Stp.chk (by rw [Lu];omega) (go _)
 exact Stp.chk (by rw [Lu];omega) (go _)
theorem Qu6 (n:Int) (k:Int) (hk:k=1∨k=2∨k=4):TotP (fun N=>W1 N n k) (fun l=>l.length≤16):=by
 rcases hk with rfl | rfl | rfl
 ·exact Qrd n 0 (by omega)
 ·exact Qrd n 1 (by omega)
 exact Qrd n 3 (by omega)
theorem Qxn (n:Int):TotP (fun N=>V8 N n) (fun r=>r.1.length≤4):=by
 unfold V8;refine TotP.bind (V:=fun v=>0≤v∧v≤4) ?_ (fun v hv=>?_)
 ·unfold Ja
  repeat' first
   | exact TotP.ret (by omega)
   | refine TotP.cond (fun _=>?_) (fun _=>?_)
 refine TotP.cond (fun _ => .ret (by simp)) (fun _=>?_);refine Q4z (L:=fun N m (q:Int×Int×List Int)=>Zc N v m q.1 q.2.1 q.2.2) (fun q=>0≤q.2.1∧q.2.1≤v∧(q.2.2.length:Int)=q.2.1) (fun q=>(v - q.2.1).toNat) ?_ (n,0,[]) ⟨by show (0:Int)≤0;omega,by show (0:Int)≤v;omega,rfl⟩
 rintro ⟨a,i,l⟩ ⟨h1,h2,h3⟩
 simp only at h1 h2 h3
 show Stp _ _ _ (fun N m=>cond (Q4 .lss i v) (cond (Q4 .lss (wrap .i64 (i+1)) v) _ _) _);dsimp only;have e1:wrap .i64 (i+1)=i+1:=w64 _ (by omega);rw [Ql,e1];refine Stp.cond (fun g=>?_) (fun g=>Stp.ret (by simp only [Mf];omega));have g:=Aa g
 have go:∀ b x:Int,Stp (fun N m (q:Int×Int×List Int)=>Zc N v m q.1 q.2.1 q.2.2) (fun q=>(0≤q.2.1∧q.2.1≤v∧(q.2.2.length:Int)=q.2.1)∧(v - q.2.1).toNat<(v - i).toNat) (fun r=>r.1.length≤4) (fun N m=>Zc N v m b (i+1) (l ++ [x])):=fun b x=>
  Stp.go (L:=fun N m (q:Int×Int×List Int)=>Zc N v m q.1 q.2.1 q.2.2) (b,i+1,l ++ [x]) ⟨⟨by show 0≤i+1;omega,by show i+1≤v;omega,by show ((l ++ [x]).length:Int)=i+1;rw [Lq,Mq];omega⟩,by show (v - (i+1)).toNat<_;omega⟩
 refine Stp.cond (fun _=>?_) (fun _=>?_)
 ·exact Stp.chk (by rw [Lu];omega) (go _ _)
 exact Stp.chk (by rw [Lu];omega) (go _ _)
theorem Qnk (s:List UInt8) (hs:s.length≤300):TotP (fun N=>Xw N s) (fun v=>v.1.length≤316):=by
 unfold Xw;rw [Xb];refine TotP.cond (fun g=>absurd (Aa g) (by omega)) (fun _=>?_);refine TotP.bind (Qu6 _ 2 (by omega)) (fun v hv=>?_);exact TotP.chk (by rw [Lu];omega) (.ret (by simp only [Lq];omega))
theorem Qwz (p:Qk) (h1:p.Text.length≤300) (h2:p.Value.length≤300):TotP (fun N=>Ve N p) (fun l=>l.length≤700):=by
 obtain ⟨w,hw,_,_⟩:=Qlc p.ID;unfold Ve;refine TotP.bindE (.of hw) ?_;refine TotP.cond (fun _=>TotP.bind (Qu6 _ 1 (by omega)) (fun v hv => .ret (by omega))) (fun _=>?_);refine TotP.cond (fun _=>TotP.bind (Qu6 _ 2 (by omega)) (fun v hv => .ret (by omega))) (fun _=>?_);refine TotP.cond (fun _=>TotP.bind (Qu6 _ 4 (by omega)) (fun v hv => .ret (by omega))) (fun _=>?_);refine TotP.cond (fun _=>TotP.bind (Qxn _) (fun v hv => .ret (by omega))) (fun _=>?_);refine TotP.bind (Qnk _ h1) (fun v hv=>?_);refine TotP.bindE (.of hw) ?_;refine TotP.cond (fun _=>?_) (fun _ => .ret (by omega));refine TotP.bind (Qnk _ h2) (fun u hu=>?_);exact TotP.chk (by rw [Lu];omega) (.ret (by simp only [Lq];omega))
theorem Z0t (l:List Qk) (hl:l.length≤30) (hp:∀ p∈l,p.Text.length≤300∧p.Value.length≤300):TotP (fun N=>Vx N l) (fun s=>s.length≤30000):=by
 unfold Vx;refine Q4z (L:=fun N n (q:List UInt8×Int)=>Yw N l n q.1 q.2) (fun q=>∃ i:Nat,q.2=(i:Int)∧i≤l.length∧q.1.length≤701 * i) (fun q=>l.length - q.2.toNat) ?_ ([],0) ⟨0,rfl,Mi _,Mi _⟩
 rintro ⟨o,s⟩ ⟨i,hs,hi,hq⟩
 simp only at hs hq
 subst hs;show Stp _ _ _ (fun N n=>cond (Q4 .lss (i:Int) ((Q8 Qk.cells l).length:Int)) _ _);rw [Q5,Ql];dsimp only;refine Stp.cond (fun hx=>?_) (fun _=>Stp.ret (by omega));have hx:=Aa hx
 have hi:i<l.length:=by omega
 refine Stp.idx (Qs hi) ?_;refine Stp.chk (by rw [Lu,Mq];omega) ?_;refine Stp.idx (Qs hi) ?_;have hf:=hp _ (Ly hi);generalize l[i]=y at hf
 have e1:wrap .i64 ((i:Int)+1)=((i+1:Nat):Int):=by rw [w64 _ (by omega)];omega
 refine Stp.bind (Qwz y hf.1 hf.2) (fun v hv=>?_);refine Stp.chk (by rw [Lu,Lq,Mq];omega) ?_;rw [e1];exact Stp.go (L:=fun N n (q:List UInt8×Int)=>Yw N l n q.1 q.2) (_,((i+1:Nat):Int)) ⟨⟨i+1,rfl,by omega,by simp only [Lq,Mq];omega⟩,by simp only [Lw];omega⟩
open Classical in
theorem Qoq (l:List Qk) (hl:l.length≤30) (hp:∀ p∈l,p.Text.length≤300∧p.Value.length≤300):TotP (fun N=>Yq N 3 l) (fun v=>decide (v=0)=decide (Vl l)):=by
 have hml:300≤maxLen:=by unfold maxLen;decide
 have hf:∀ {e:Int},e≠0→¬ Vl l→decide (e=0)=decide (Vl l):=fun h1 h2=>by rw [Ab h1,Ab h2]
 unfold Yq;rw [Q5,Xb];refine TotP.cond (fun g=>absurd (Aa g) (by omega)) (fun _=>?_);refine Q2s (L:=fun N n i=>Yn N 3 l n i) l.length (fun i=>Pre l i) (fun i hi hP=>?_) (fun hV=>?_) (fun j _ h=>absurd h (Nat.not_lt_zero _))
 ·show Stp _ _ _ (fun N n=>cond (Q4 .lss (i:Int) ((Q8 Qk.cells l).length:Int)) _ _);rw [Q5,Ql];refine Stp.cond (fun _=>?_) (fun h=>by have:=Ac h;omega);refine Stp.idx (Qs hi) ?_;have hT:=hp _ (Ly hi);refine Stp.bind (Qxm _ (by omega)) (fun v hv=>?_);rw [Yc];refine Stp.cond (fun g=>Stp.ret ?_) (fun g=>?_)
  ·have g:=Aa g;exact hf g (Vl.no1 hi (by rw [← hv];exact Ab g))
  have hok:iOk l[i]=true:=by rw [← hv];exact Ad (by have:=Ac g;omega)
  refine Stp.chk (Ad (by omega)) ?_;refine Stp.chk (by simp;omega) ?_;refine Stp.idx (Qs hi) ?_;rw [Lw];refine Stp.bind (Qwj (l.take i) (by rw [Me];omega) _ hok) (fun w hw=>?_)
  have hex:(∃ q∈l.take i,q.ID=l[i].ID)↔∃ k,∃ hk:k<i,(l[k]'(by omega)).ID=l[i].ID:=by
   constructor
   ·rintro ⟨q,hq,e⟩
    obtain ⟨k,hk,rfl⟩:=Mr hq
    have hk2:k<i:=by rw [Me] at hk;omega
    refine ⟨k,hk2,?_⟩;rw [Cc] at e;exact e
   rintro ⟨k,hk,e⟩
   have hk2:k<(l.take i).length:=by rw [Me];omega
   exact ⟨(l.take i)[k],Ly hk2,by rw [Cc];exact e⟩
  refine Stp.cond (fun g=>Stp.ret ?_) (fun g=>?_)
  ·obtain ⟨a,b⟩:=hw.1 g;exact hf (by decide) (Vl.no2 hi a (hex.1 b))
  rw [w64 _ (by omega)];refine Stp.go (L:=fun N n i=>Yn N 3 l n i) _ ⟨by omega,hP.step hi hok ?_⟩
  cases ho:oft l[i].ID with
  | true=>exact .inl rfl
  | false=>
   refine .inr fun k hk e=>?_;have:=hw.2 ⟨ho,hex.2 ⟨k,hk,e⟩⟩;rw [g] at this;cases this
 show Stp _ _ _ (fun N n=>cond (Q4 .lss (l.length:Int) ((Q8 Qk.cells l).length:Int)) _ _);rw [Q5,Ql];refine Stp.cond (fun h=>by have:=Aa h;omega) (fun _=>Stp.fin ?_);have hV:Vl l:=hV;refine TotP.bindE (v:=false) (TotP.tot ?_) ?_
 ·unfold J8;refine TotP.bind (Qw5 l hl 22) (fun a ha=>?_);refine TotP.bind (Qw5 l hl 21) (fun b _=>?_);refine TotP.cond (fun g=>?_) (fun _ => .ret rfl);exfalso;obtain ⟨p,hp,e⟩:=ha.1 g;obtain ⟨k,hk,rfl⟩:=Mr hp;have:=(hV k hk hk).1;unfold iOk at this;rw [e] at this;exact Bool.noConfusion (show false=true from this)
 refine TotP.cond (fun g=>by cases g) (fun _=>?_);refine TotP.bind (Z0t l hl hp) (fun s hs=>?_);rw [Xb];exact TotP.cond (fun g=>absurd (Aa g) (by omega)) (fun _ => .ret (by rw [Ad hV];rfl))
end
end Go.Av
namespace Go.Av
noncomputable section
theorem Qkv (e:Qf) (h:OkE e) (hv:∀ x∈e.Frame.Values,OkV x):TotP (fun N=>Vs N e) (fun v=>v=true→LE e∧e.Props.length≤30∧∀ p∈e.Props,p.Text.length≤300∧p.Value.length≤300):=by
 have h30:300≤maxLen:=by unfold maxLen;decide
 refine TotP.cond (fun h1=>?_) (fun _ => .ret (fun h=>nomatch h));refine TotP.cond (fun h2=>?_) (fun _ => .ret (fun h=>nomatch h));rw [Vv] at h1 h2;have h1:=Aa h1;have h2:=Aa h2;refine TotP.bind (Qdg _ h.props) (fun v hv1=>?_);refine TotP.cond (fun h3=>?_) (fun _ => .ret (fun h=>nomatch h));refine TotP.bind (Qq1 _ h.filters h.pprops h.wprops) (fun u hu=>?_);refine TotP.cond (fun hu1=>?_) (fun _ => .ret (fun h=>nomatch h));refine TotP.bind (Qwh _) (fun w hw=>?_);refine TotP.cond (fun h4=>?_) (fun _ => .ret (fun h=>nomatch h));refine TotP.bind (Qtt _ hv) (fun x hx => .ret (fun h5=>?_));have g:=hv1 h3;exact ⟨⟨by omega,by omega,⟨g.1,fun x hx=>Mo (g.2 x hx).1 h30⟩,hu hu1,hw h4,hx h5⟩,g⟩
theorem Qjp (e:Qf) {v w:Int} (h:v=0↔w=0):Q4m e v=Q4m e w:=by
 unfold Q4m
 by_cases hv:v=0
 ·rw [hv,h.1 hv]
 rw [Af hv,Af (fun x=>hv (h.2 x))]
def Qsi (client:List UInt8) (e:Qf) (proto:Int) (N:Nat) (R:Reg):Option Bool:=
  (Vk N proto 4).bind fun v143=>
  (Q0e N R client e (wrap .i64 (1+v143))).bind fun v145=>
  (Za N e).bind fun v147=>
  cond (Q4 .neq v147 0)
  (some (Q4 .eql v145.1.2 v147))
  (cond (Q4 .neq v145.1.2 0)
  (cond (Q4 .eql v145.1.2 15)
  (some (Q4 .neq (wrap .i64 (1+v143)) e.Proto))
  (some false))
  (cond (Q4 .neq v145.1.1.Proto (wrap .i64 (1+v143)))
  (some false)
  (cond (G9 .neq v145.1.1.Topic e.Topic)
  (some false)
  (cond (G9 .neq v145.1.1.Payload e.Payload)
  (some false)
  (cond (Q4 .neq v145.1.1.QoS e.QoS)
  (some false)
  (cond (!(v145.1.1.Retain == e.Retain))
  (some false)
  (cond (Q4 .neq v145.1.1.ID e.ID)
  (some false)
  ((Za N v145.1.1).bind fun v158=>
  cond (Q4 .neq v158 0)
  (some false)
  (cond (Q4 .eql (wrap .i64 (1+v143)) e.Proto)
  ((X3 N v145.1.1 e).bind fun v162=>
  some v162)
  ((Q0e N v145.2 client v145.1.1 e.Proto).bind fun v164=>
  cond (Q4 .neq v164.1.2 0)
  (cond (Q4 .eql v164.1.2 15)
  (some (Q4 .eql e.Proto 3))
  (some false))
  (cond (G9 .eql v164.1.1.Topic e.Topic)
  (cond (G9 .eql v164.1.1.Payload e.Payload)
  (cond (Q4 .eql v164.1.1.QoS e.QoS)
  (cond (v164.1.1.Retain == e.Retain)
  (cond e.Dup
  (some (v164.1.1.Dup == (Q4 .gtr e.QoS 0)))
  (some (v164.1.1.Dup == false)))
  (some false))
  (some false))
  (some false))
  (some false))))))))))))
theorem no0 {f g:Nat→Option Bool} {b:Bool} {Q:Bool→Prop} (hb:b=false) (hg:TotP g Q):TotP (fun N=>cond b (f N) (g N)) Q:=by
 subst hb;exact hg
theorem Qns {f g:Nat→Option Bool} {b:Bool} {Q:Bool→Prop} (hb:b=true) (hg:TotP f Q):TotP (fun N=>cond b (f N) (g N)) Q:=by
 subst hb;exact hg
theorem Z1o (s:List UInt8):G9 .neq s s=false:=by rw [Q6i];simp
theorem Qth (s:List UInt8):G9 .eql s s=true:=by rw [Qcb];simp
theorem Qym (n:Int):Q4 .neq n n=false:=by rw [Yc];simp
theorem Z1k (n:Int):Q4 .eql n n=true:=by rw [Zv];simp
open Classical in
theorem Qp4 (client:List UInt8) {e:Qf} (proto:Int) (R:Reg) (h:LE e) (hb:e.Props.length≤30∧∀ p∈e.Props,p.Text.length≤300∧p.Value.length≤300):TotP (fun N=>Qsi client e proto N R) (· = true):=by
 obtain ⟨v,hv0,hv⟩:=Qu4 e.Props hb.1 hb.2;obtain ⟨w,hw0,hw⟩:=Qoq e.Props hb.1 hb.2
 have hz:v=0↔w=0:=by
  have:decide (v=0)=decide (w=0):=hv0.trans hw0.symm;simpa using this
 have hq:0≤proto % 4∧proto % 4<4:=⟨Int.emod_nonneg _ (by omega),Int.emod_lt_of_pos _ (by omega)⟩;unfold Qsi;refine TotP.bindE (v:=proto % 4) (.of fun N=>Qxo N proto 4 (by omega) (by omega)) ?_;generalize proto % 4=q at hq;have ew:wrap .i64 (1+q)=1+q:=w64 _ (by omega);rw [ew];generalize hpq:1+q=p
 have hp:pOk p:=by unfold pOk;omega
 obtain ⟨r,⟨hR,hr⟩,hto⟩:=Qmb R client p h hv;refine TotP.bindE hto ?_;refine TotP.bindE (Qsj h hw) ?_;rw [← Qjp e hz];obtain ⟨⟨x,err⟩,R'⟩:=r
 simp only at hR hr
 subst hR;dsimp only;have same:TotP (fun N=>(X3 N e e).bind fun v=>some v) (· = true):=TotP.bind (Qhl e e h.oks6) (fun v hv => .ret (hv.2 rfl))
 have fin:∀ D:Bool,D=(e.Dup&&decide (e.QoS>0))→TotP (fun _=>cond e.Dup (some (D == (Q4 .gtr e.QoS 0))) (some (D == false))) (· = true):=fun D hD=>by
  rw [Xb,hD];refine TotP.cond (fun g => .ret (by rw [g];simp)) (fun g => .ret (by rw [g];rfl))
 have other:∀ (d:Bool) (ty:Int),Q4m e v=0→p≠e.Proto→Q4m (there p e d ty) 0=0→(e.Proto≠3→0≤e.QoS)→(d&&decide (e.QoS>0))=(e.Dup&&decide (e.QoS>0))→(e.Proto=3→d=(e.Dup&&decide (e.QoS>0))) →
   TotP (fun N=>cond (Q4 .neq p p) (some false) (cond (G9 .neq e.Topic e.Topic) (some false) (cond (G9 .neq e.Payload e.Payload) (some false) (cond (Q4 .neq e.QoS e.QoS) (some false) (cond (!(e.Retain == e.Retain)) (some false) (cond (Q4 .neq e.ID e.ID) (some false)
   ((Za N (there p e d ty)).bind fun v158=>cond (Q4 .neq v158 0) (some false) (cond (Q4 .eql p e.Proto) ((X3 N (there p e d ty) e).bind fun v162=>some v162)
   ((Q0e N R' client (there p e d ty) e.Proto).bind fun v164=>cond (Q4 .neq v164.1.2 0) (cond (Q4 .eql v164.1.2 15) (some (Q4 .eql e.Proto 3)) (some false)) (cond (G9 .eql v164.1.1.Topic e.Topic) (cond (G9 .eql v164.1.1.Payload e.Payload) (cond (Q4 .eql v164.1.1.QoS e.QoS) (cond (v164.1.1.Retain == e.Retain)
   (cond e.Dup (some (v164.1.1.Dup == (Q4 .gtr e.QoS 0))) (some (v164.1.1.Dup == false))) (some false)) (some false)) (some false)) (some false))))))))))) (· = true):=fun d ty h0 he hpub hqos hd1 hd3=>by
  obtain ⟨⟨_,hP⟩,_,_,_⟩:=Qh9 h0;refine no0 (Qym _) (no0 (Z1o _) (no0 (Z1o _) (no0 (Qym _) (no0 (by simp) (no0 (Qym _) ?_)))));refine TotP.bindE (Qsj (h.there p d ty) Ql1) ?_;rw [hpub];refine no0 rfl (no0 (by rw [Zv];exact Ab he) ?_);obtain ⟨r2,⟨hR2,hr2⟩,hto2⟩:=Qmb R' client e.Proto (h.there p d ty) Z0c;refine TotP.bindE hto2 ?_;obtain ⟨⟨y,err2⟩,R2⟩:=r2
  simp only at hR2 hr2
  dsimp only
  cases hr2 with
  | arg g=>exact absurd hP.known g
  | bad _ g=>exact absurd hpub g
  | own _ _ g=>exact absurd g.symm he
  | loss _ _ _ why=>
   refine Qns rfl (Qns rfl (.ret ?_));rw [Zv];refine Ad ?_
   rcases why with g | g | g
   ·exact absurd rfl g
   ·have g2:e.QoS<0:=g.2;have:=hqos g.1;omega
   exact g.1
  | plain _ _ _ _ h3 _=>exact no0 rfl (Qns (Qth _) (Qns (Qth _) (Qns (Z1k _) (Qns (by simp [there]) (fin _ hd1)))))
  | sn g _ _ _ ty2 _=>exact no0 rfl (Qns (Qth _) (Qns (Qth _) (Qns (Z1k _) (Qns (by simp [there]) (fin _ (hd3 g))))))
 cases hr with
 | arg g=>exact absurd hp g
 | bad _ h0=>
  refine Qns (by rw [Yc];exact Ad h0) (.ret ?_);exact Z1k _
 | loss _ h0 he why=>
  rw [h0];refine no0 rfl (Qns rfl (Qns rfl (.ret ?_)));rw [Yc];exact Ad he
 | own _ h0 he=>
  rw [h0,he];refine no0 rfl (no0 rfl (no0 (Qym _) (no0 (Z1o _) (no0 (Z1o _) (no0 (Qym _) (no0 (by simp) (no0 (Qym _) ?_)))))));refine TotP.bindE (Qsj h hw) ?_;rw [← Qjp e hz,h0];exact no0 rfl (Qns (Z1k _) same)
 | plain _ h0 he hpr h3 hq0=>
  rw [h0];refine no0 rfl (no0 rfl ?_);exact other _ _ h0 he (Qqy h0 hp h3 hq0) (fun _=>hq0) (by cases e.Dup<;>simp) (fun _=>rfl)
 | sn g h0 he hpr ty hpub=>
  rw [h0];subst g;refine no0 rfl (no0 rfl ?_);obtain ⟨⟨_,hP⟩,_,_,_⟩:=Qh9 h0;exact other _ _ h0 he hpub (fun x=>by rcases hP.qos with q | q;exact q.1;exact absurd q.1 x) rfl (fun x=>absurd x.symm he)
theorem Qy1 (t:List Qe) (client:List UInt8) (e:Qf) (proto:Int) (ht:t.length≤maxLen) (he:Qca e):∃ N,Xr N t client e proto=some true:=by
 have hm:200≤maxLen:=by unfold maxLen;decide
 have key:TotP (fun N=>Xr N t client e proto) (· = true):=by
  unfold Xr;refine TotP.bindE (v:=true) (.of fun _=>rfl) ?_;refine TotP.cond (fun h=>by cases h) (fun _=>?_);refine TotP.bind (Qxj t ht) (fun v hv=>?_);refine TotP.cond (fun _ => .ret rfl) (fun g=>?_);obtain ⟨h1,h2⟩:=hv (by simpa using g);refine TotP.cond (fun _ => .ret rfl) (fun _=>?_);refine TotP.bind (Qkv e (Z27 he) he.Frame_ok.Values_ok.2) (fun v hv=>?_);refine TotP.cond (fun _ => .ret rfl) (fun g=>?_);have hle:=hv (by simpa using g);refine Qod (L:=fun N n i c' R=>Zq N t client e proto n i c' R) (K:=fun N R=>Qsi client e proto N R) h1 (fun y hy=>Mo (h2 y hy) hm) (fun N n i c' R=>?_) (Qp4 client proto _ hle.1 hle.2);show cond (Q4 .lss i ((Q8 Qe.cells t).length:Int)) _ _=_;rw [Q5];rfl
 obtain ⟨N,hN⟩:=key.tot;exact ⟨N,hN N (Li _)⟩
end
abbrev Aw := @TotP.ret
abbrev Ax := @TotP.tot
abbrev Ay := @TotP.bind
abbrev Az := @TotP.bindE
abbrev AA := @TotP.cond
abbrev AB := @TotP.chk
abbrev AC := @Stp.fin
abbrev AD := @Stp.ret
abbrev AE := @Stp.go
abbrev AF := @Stp.bind
abbrev AG := @Stp.idx
abbrev AH := @Stp.cond
abbrev AI := @Stp.chk
end Go.Av
