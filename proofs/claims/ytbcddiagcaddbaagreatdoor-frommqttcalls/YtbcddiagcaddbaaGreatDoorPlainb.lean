/- Part of FrommqttCalls: the law returns true; no condition. -/
import Derived.Test.YtbcddiagcaddbaaGreatDoorPlain
import Derived.Test.YtbcddiagcaddbaaGreatDoorOkX
import Derived.Test.YtbcddiagcaddbaaGreatDoorLiftF5
set_option linter.all false
open Go.IntKind (wrap)
namespace Go.Av
noncomputable section
theorem Q17 (n:Int) (h:0≤n∧n<18446744073709551616) (w:Nat) (hw:w≤8):Tot (fun N=>X4 N (wrap .u64 n) (w:Int)) (Qbq n.toNat w):=by
 refine ⟨11,fun N hN=>?_⟩;have:=Z26 N n.toNat w (by omega) hw (by omega)
 rwa [show ((n.toNat:Nat):Int)=wrap .u64 n by rw [Z3i (by omega)];omega] at this
set_option maxRecDepth 20000 in
theorem Z6t (n i:Nat) (hi:i≤7):wrap .u8 (Qdb .u64 (n:Int) (wrap .u64 (wrap .i64 (8 * (i:Int)))))=((n / 256 ^ i % 256:Nat):Int):=by
 have e1:wrap .u64 (wrap .i64 (8 * (i:Int)))=((8 * i:Nat):Int):=by rw [w64 _ (by omega),Z3i (by omega)];omega
 rw [e1,Qpz];simp only [Qdb]
 have:min (((8 * i:Nat):Int).toNat) IntKind.u64.bits=8 * i:=by simp [IntKind.bits];omega
 rw [this,Cz _ (by have:=Qip (8 * i);omega)];have e0:(2:Nat) ^ (8 * i)=256 ^ i:=Nat.pow_mul 2 8 i
 have e:((2:Int) ^ (8 * i))=((256 ^ i:Nat):Int):=by rw [← e0];push_cast;rfl
 rw [e]
 push_cast
 rfl
theorem Z08 (n w:Nat) (hw:1≤w∧w≤8):Tot (fun N=>Zj N (n:Int) (w:Int)) (Qbq n w):=by
 refine Ar ?_
 have hs:wrap .i64 ((ifB (decide ((ifB (decide ((16:Int)<(w:Int))) 16 (w:Int))>0)) (ifB (decide ((16:Int)<(w:Int))) 16 (w:Int)) 0) - 1)=((w:Int) - 1):=by
  rw [Ab (p:=(16:Int)<w) (by omega)];show wrap .i64 ((ifB (decide ((w:Int)>0)) (w:Int) 0) - 1)=_;rw [Ad (p:=(w:Int)>0) (by omega)];show wrap .i64 ((w:Int) - 1)=_;exact w64 _ (by omega)
 show TotP (fun N=>Ym N (n:Int) N (wrap .i64 _) []) _;rw [hs];refine Qbi (L:=fun N m (q:Int×List Int)=>Ym N (n:Int) m q.1 q.2) (fun q=>∃ j:Nat,q.1=(j:Int) - 1∧j≤w∧q.2.length=w - j∧(q.2.map fun n=>UInt8.ofNat n.toNat)=Qbq (n / 256 ^ j) (w - j)) (fun q=>(q.1+1).toNat) ?_ ((w:Int) - 1,[]) ⟨w,rfl,by omega,by simp,by rw [Cm];rfl⟩
 rintro ⟨i,l⟩ ⟨j,h1,h2,h3,h4⟩
 simp only at h1 h2 h3 h4
 show Stp _ _ _ (fun N m=>cond (Q4 .geq i 0) (cond (Q4 .lss i 8) _ _) _);dsimp only;rw [Xv,Qf];refine AE (fun g=>?_) (fun g=>AA ?_)
 ·have g:=Aa g;obtain ⟨k,rfl⟩:∃ k,j=k+1:=⟨j - 1,by omega⟩
  have hi:i=(k:Int):=by omega
  subst hi;refine AE (fun _=>?_) (fun g2=>absurd (Ac g2) (by omega));refine AF (Ad (by rw [w64 _ (by omega),Z3i (by omega)];omega)) ?_;refine AF (by rw [Lm];omega) ?_;rw [Z6t n k (by omega),w64 _ (by omega)];refine AB (L:=fun N m (q:Int×List Int)=>Ym N (n:Int) m q.1 q.2) (_,_) ⟨⟨k,rfl,by omega,?_,?_⟩,by simp only;omega⟩
  ·simp only [Lf,Lx];omega
  rw [Mz,h4,show w - k=(w - (k+1))+1 by omega];show _=Qbq (n / 256 ^ k / 256) (w - (k+1)) ++ [UInt8.ofNat (n / 256 ^ k % 256)];rw [Nat.div_div_eq_div_mul,← Nat.pow_succ];rfl
 have g:=Ac g
 obtain rfl:j=0:=by omega
 rw [h4,Nat.pow_zero,Nat.div_one,Nat.sub_zero]
theorem Q3f (n:Int) (h:0≤n∧n<18446744073709551616) (w:Nat) (hw:1≤w∧w≤8):Tot (fun N=>Zj N (wrap .u64 n) (w:Int)) (Qbq n.toNat w):=by
 have:=Z08 n.toNat w hw
 rwa [show ((n.toNat:Nat):Int)=wrap .u64 n by rw [Z3i (by omega)];omega] at this
theorem bN {x:Bool} (h:(!x)=true):x=false:=by cases x;rfl;cases h
theorem bP {x:Bool} (h:(!x)=false):x=true:=by cases x;cases h;rfl
def Qhk (s:List UInt8):List UInt8:=Qbq s.length 2++s
theorem Qmg (s:List UInt8) (hs:s.length≤65535):Tot (fun N=>Gf N s) (Qhk s,0):=by
 refine Ar ?_;unfold Gf;rw [Qx];refine Aw (fun g=>absurd (Aa g) (by omega)) (fun _=>?_);refine At (V:=(· = Qhk s)) ?_ (fun b hb => .ret (by rw [hb]));unfold Gd;refine Au (Q17 (s.length:Int) (by omega) 2 (by omega)) (Ax (by rw [Lm,Xr];omega) (.ret rfl))
theorem Qna (s:List UInt8) (hs:s.length≤65535):Tot (fun N=>W8 N s) (Qhk s,0):=by
 refine Ar ?_;unfold W8;rw [Qx];refine Aw (fun g=>absurd (Aa g) (by omega)) (fun _=>?_);exact Au (Q3f (s.length:Int) (by omega) 2 (by omega)) (Ax (by rw [Lm,Xr];omega) (.ret rfl))
def vb (n:Nat):List UInt8:=if n<128 then [UInt8.ofNat n] else UInt8.ofNat (n % 128+128)::vb (n / 128)
termination_by n
decreasing_by omega
theorem Qq8 {n:Nat} (h:n<128):vb n = [UInt8.ofNat n]:=by rw [vb,Af h]
theorem Qof {n:Nat} (h:128≤n):vb n=UInt8.ofNat (n % 128+128)::vb (n / 128):=by rw [vb,Ae (by omega)]
theorem Qwn {n:Nat} (h:n≤268435455):(vb n).length=if n<128 then 1 else if n<16384 then 2 else if n<2097152 then 3 else 4:=by
 by_cases h1:n<128
 ·rw [Qq8 h1,Af h1];rfl
 rw [Ae h1,Qof (by omega),Li]
 by_cases h2:n<16384
 ·rw [Qq8 (by omega),Af h2];rfl
 rw [Ae h2,Qof (by omega),Li]
 by_cases h3:n<2097152
 ·rw [Qq8 (by omega),Af h3];rfl
 rw [Ae h3,Qof (by omega),Li,Qq8 (by omega)];rfl
theorem Qum {n:Nat} (h:n≤268435455):1≤(vb n).length∧(vb n).length≤4:=by
 rw [Qwn h]
 (repeat' split)<;>omega
theorem Za0 {a:Nat} (h:a<128):orI .u8 (a:Int) 128=((a+128:Nat):Int):=by
 have:∀ a:Fin 128,orI .u8 ((a.val:Nat):Int) 128=((a.val+128:Nat):Int):=by decide +kernel
 exact this ⟨a,h⟩
theorem Qmb (n:Nat) (h:n≤268435455):Tot (fun N=>Ji N (n:Int)) (vb n,0):=by
 refine Ar ?_;unfold Ji Q4n;rw [Xv,X2,Ad (p:=(n:Int)≥0) (by omega),Ad (by omega)];refine Au (v:=true) (.of fun _=>rfl) ?_;refine Aw (fun g=>nomatch g) (fun _=>?_);refine Qbi (L:=fun N m (q:Int×List Int)=>J9 N m q.1 q.2) (fun q=>∃ x:Nat,q.1=(x:Int)∧x≤n∧q.2.length+(vb x).length=(vb n).length∧(q.2.map fun n=>UInt8.ofNat n.toNat)++vb x=vb n) (fun q=>q.1.toNat) ?_ ((n:Int),[]) ⟨n,rfl,by omega,by simp,by simp⟩;have hl:=Qwn h;have hl4:=Qum h
 rintro ⟨s,l⟩ ⟨x,h1,h2,h3,h4⟩
 simp only at h1 h2 h3 h4
 subst h1;show Stp _ _ _ (fun N m=>cond (Q4 .geq (x:Int) 128) _ _);dsimp only;rw [Xv];refine AE (fun g=>?_) (fun g=>?_)
 ·have g:128≤x:=by have:=Aa g;omega
  refine AF (by rw [Lm];omega) ?_
  have e1:wrap .i64 ((x:Int).tdiv 128)=((x / 128:Nat):Int):=by rw [Bh (by omega),w64 _ (by omega)];omega
  have e2:orI .u8 (wrap .u8 ((x:Int).tmod 128)) 128=((x % 128+128:Nat):Int):=by
   rw [Bx (by omega),Qpz,← Za0 (Nat.mod_lt x (by decide))]
   congr 1
   omega
  rw [Qof g,Li] at h3;rw [Qof g] at h4;rw [e1,e2];refine AB (L:=fun N m (q:Int×List Int)=>J9 N m q.1 q.2) (_,_) ⟨⟨x / 128,rfl,by omega,?_,?_⟩,by simp only [Lt];omega⟩
  ·simp only [Lf,Lx];omega
  rw [Mz,Lq];exact h4
 have g:x<128:=by have:=Ac g;omega
 refine AF (by rw [Lm];omega) (AA ?_);rw [Qq8 g] at h4;rw [Mz,← h4,Qpz,show (x:Int) % 256=x by omega];rfl
theorem Qm3 (n:Nat) (h:n≤268435455):Tot (fun N=>Wn N (n:Int)) (vb n,0):=by
 refine Ar ?_;have hl:=Qwn h;have hl4:=Qum h;unfold Wn
 have hs:∀ N,Gk N (n:Int)=some ((vb n).length:Int):=fun N=>by
  unfold Gk;rw [Qf,Qx,Qf,Qf,Qf,Ab (p:=(n:Int)<0) (by omega),Ab (p:=(n:Int)>268435455) (by omega),hl]
  by_cases h1:n<128
  ·rw [Ad (p:=(n:Int)<128) (by omega),Af h1];rfl
  rw [Ab (p:=(n:Int)<128) (by omega),Ae h1]
  by_cases h2:n<16384
  ·rw [Ad (p:=(n:Int)<16384) (by omega),Af h2];rfl
  rw [Ab (p:=(n:Int)<16384) (by omega),Ae h2]
  by_cases h3:n<2097152
  ·rw [Ad (p:=(n:Int)<2097152) (by omega),Af h3];rfl
  rw [Ab (p:=(n:Int)<2097152) (by omega),Ae h3];rfl
 refine Au (.of hs) ?_;rw [Q9,Ab (by omega)];refine Qbi (L:=fun N m (q:Int×Int×List Int)=>Y4 N ((vb n).length:Int) m q.1 q.2.1 q.2.2) (fun q=>∃ x i:Nat,q.1=(x:Int)∧q.2.1=(i:Int)∧i≤(vb n).length∧q.2.2.length=i∧x≤n∧((i=(vb n).length∧(q.2.2.map fun n=>UInt8.ofNat n.toNat)=vb n)∨(i+(vb x).length=(vb n).length∧(q.2.2.map fun n=>UInt8.ofNat n.toNat)++vb x=vb n))) (fun q=>(vb n).length - q.2.1.toNat) ?_ ((n:Int),0,[]) ⟨n,0,rfl,rfl,by omega,rfl,by omega,.inr ⟨by simp,by simp⟩⟩
 rintro ⟨s,i',l⟩ ⟨x,i,h1,h2,h3,h4,h5,h6⟩
 simp only at h1 h2 h3 h4 h5 h6
 subst h1;subst h2;show Stp _ _ _ (fun N m=>cond (Q4 .lss (i:Int) ((vb n).length:Int)) (cond (Q4 .lss (wrap .i64 ((i:Int)+1)) ((vb n).length:Int)) _ _) _);dsimp only
 have ei:wrap .i64 ((i:Int)+1)=((i+1:Nat):Int):=by rw [w64 _ (by omega)];omega
 have e1:wrap .i64 ((x:Int).tdiv 128)=((x / 128:Nat):Int):=by rw [Bh (by omega),w64 _ (by omega)];omega
 have e2:wrap .u8 ((x:Int).tmod 128)=((x % 128:Nat):Int):=by rw [Bx (by omega),Qpz];omega
 rw [ei,e1,e2,Qf,Qf];refine AE (fun g=>?_) (fun g=>?_)
 ·have g:i<(vb n).length:=by have:=Aa g;omega
  rcases h6 with h6 | ⟨h6,h7⟩
  ·omega
  refine AE (fun g2=>?_) (fun g2=>?_)
  ·have g2:i+1<(vb n).length:=by have:=Aa g2;omega
   have gx:128≤x:=by
    refine Nat.le_of_not_lt fun hx=>?_;rw [Qq8 hx,Lx] at h6;omega
   rw [Qof gx,Li] at h6;rw [Qof gx] at h7;refine AF (by rw [Lm];omega) ?_
   have e3:wrap .u8 (((x % 128:Nat):Int)+128)=((x % 128+128:Nat):Int):=by rw [Qpz];omega
   rw [e3];refine AB (L:=fun N m (q:Int×Int×List Int)=>Y4 N ((vb n).length:Int) m q.1 q.2.1 q.2.2) (_,_,_) ⟨⟨x / 128,i+1,rfl,rfl,by omega,by simp only [Lf,Lx];omega,by omega,.inr ⟨by omega,?_⟩⟩,by simp only [Lt];omega⟩;rw [Mz,Lq];exact h7
  have g2:¬ i+1<(vb n).length:=by have:=Ac g2;omega
  have gx:x<128:=by
   refine Nat.lt_of_not_le fun hx=>?_;rw [Qof hx,Li] at h6;have:=Qum (n:=x / 128) (by omega);omega
  rw [Qq8 gx] at h7 h6;refine AF (by rw [Lm];omega) ?_;refine AB (L:=fun N m (q:Int×Int×List Int)=>Y4 N ((vb n).length:Int) m q.1 q.2.1 q.2.2) (_,_,_) ⟨⟨x / 128,i+1,rfl,rfl,by omega,by simp only [Lf,Lx];omega,by omega,.inl ⟨by simp only [Lx] at h6;omega,?_⟩⟩,by simp only [Lt];omega⟩;rw [Mz,← h7,show x % 128=x by omega];rfl
 have g:¬ i<(vb n).length:=by have:=Ac g;omega
 refine AA ?_
 rcases h6 with ⟨_,h6⟩ | ⟨h6,h7⟩
 ·rw [h6]
 have:=Qum (n:=x) (by omega);omega
end
end Go.Av
namespace Go.Av
noncomputable section
class Kd (k:Int):Prop where
 lo:1≤k
 hi:k≤16
def Qy5 (sh least most:Int) (p:Q6):Int:=if sh≤4 then (if p.Text ≠ []∨p.Value ≠ [] then 2 else if p.N'<least∨most<p.N' then 9 else 0) else
 if p.N'≠0∨(sh≠7∧p.Value ≠ []) then 2 else if sh=6 then (if 65535<(p.Text.length:Int) then 2 else 0) else if (Vf p.Text&&Vf p.Value)=false then 6 else if p.ID=8∧Q0u p.Text=false then 9 else 0
def Qp6 (m k:Int):Bool:=Q4 .eql (Q7g .i64 (Qdb .i64 m (wrap .u64 k)) 1) 1
section
variable {k:Int} [hk:Kd k]
theorem Z0e (r:Qu) (N:Nat):Q0k N r k=some (Qp6 r.kinds k):=by
 have h1:=hk.lo;have h2:=hk.hi;unfold Q0k;rw [Xv,X2,Ad h1,Ad h2,Z3i (by omega),Ad (by omega)];unfold Qp6;rw [Z3i (by omega)];rfl
theorem Z1y (r:Qu) (p:Q6) (h1:p.Text.length≤maxLen):Tot (fun N=>Q22 N r k p) (if Qp6 r.kinds k=true then Qy5 r.shape r.least r.most p else 9):=by
 refine Ar ?_;unfold Q22 Q30;simp only [X2,Qp,Q9,Qx,Qf,Q8t];refine Au (.of (Z0e r)) ?_;refine Aw (fun g => .ret (by rw [Ae (by simpa using g)])) (fun g=>?_);rw [Af (by simpa using g)];refine Aw (fun g1=>?_) (fun g1=>?_)
 ·have g1:=Aa g1;unfold Qy5;rw [Af g1];refine At (V:=fun v=>v=_) ?_ (fun v hv => .ret hv)
  repeat' first
   | refine Aw (fun g=>?_) (fun g=>?_)
   | exact TotP.ret (by simp_all)
   | exact TotP.ret (by simp_all;omega)
 have g1:=Ac g1;unfold Qy5;rw [Ae g1]
 repeat' first
  | refine Aw (fun g=>?_) (fun g=>?_)
  | refine Au (Q9t _) ?_
  | refine Au (Qfg _ h1) ?_
  | exact TotP.ret (by simp_all)
def Qs1 (sh least most:Int) (p:Q6):Int:=cond (decide ((sh≤4∧p.Text ≠ [])∨(¬ sh≤4∧p.N'≠0)∨(sh≠7∧p.Value ≠ []))) 2 (cond (decide (sh≤4)&&decide (p.N'<least∨most<p.N')) 9
 (cond (decide (sh=5∨sh=7) && !(Vf p.Text&&Vf p.Value)) 6 (cond (decide (p.ID=8) && !(Q0u p.Text)) 9 (cond (decide (sh=6)&&decide ((p.Text.length:Int)>65535)) 2 0))))
theorem Qw7 {sh least most:Int} {p:Q6} (h:(sh≤4∧p.ID≠8)∨(sh=5∨sh=7)∨(sh=6∧p.ID≠8)):Qs1 sh least most p=Qy5 sh least most p:=by
 unfold Qs1 Qy5
 rcases h with ⟨h,h8⟩ | h | ⟨h,h8⟩
 ·have c5:¬ sh=5:=by omega
  have c6:¬ sh=6:=by omega
  have c7:sh≠7:=by omega
  rw [Af h]
  by_cases t:p.Text = []<;>by_cases w:p.Value = []<;>by_cases n:(p.N'<least∨most<p.N')<;>simp [h,c5,c6,c7,h8,t,w,n]
 ·have c4:¬ sh≤4:=by omega
  have c6:¬ sh=6:=by omega
  rw [Ae c4,Ae c6]
  by_cases t:p.N'=0<;>by_cases w:(sh≠7∧p.Value ≠ [])<;>cases v1:Vf p.Text<;>cases v2:Vf p.Value<;>by_cases i:p.ID=8<;>cases v3:Q0u p.Text<;>simp [c4,c6,h,t,w,v1,v2,v3,i]
 subst h
 by_cases t:p.N'=0<;>by_cases w:p.Value = []<;>by_cases l:65535<(p.Text.length:Int)<;>simp [h8,t,w,l]
theorem Qyr (sh least most:Int) (ks:List Int) (p:Q6) (h1:p.Text.length≤maxLen):Tot (fun N=>cond (Q4 .leq sh 4)
  (cond (Q1l .neq p.Text []) (Qn N p ⟨sh,ks,least,most⟩ true) (cond (Q4 .neq sh 7) (Qn N p ⟨sh,ks,least,most⟩ (Q1l .neq p.Value [])) (Qn N p ⟨sh,ks,least,most⟩ false)))
  (cond (Q4 .neq p.N' 0) (Qn N p ⟨sh,ks,least,most⟩ true) (cond (Q4 .neq sh 7) (Qn N p ⟨sh,ks,least,most⟩ (Q1l .neq p.Value [])) (Qn N p ⟨sh,ks,least,most⟩ false)))) (Qs1 sh least most p):=by
 refine Ar ?_;have j5:∀ b,TotP (fun N=>Vo N b) (· = cond b 2 0):=fun b=>Aw (fun g => .ret (by rw [g];rfl)) (fun g => .ret (by rw [g];rfl))
 have j4:∀ s,TotP (fun N=>Wf N p ⟨sh,ks,least,most⟩ s) (· = cond s 9 (cond (decide (sh=6)&&decide ((p.Text.length:Int)>65535)) 2 0)):=fun s=>by
  unfold Wf;refine Aw (fun g => .ret (by rw [g];rfl)) (fun g=>?_);rw [g];show TotP (fun N=>cond (Q4 .eql sh 6) _ _) _;rw [Q9,Qx];exact Aw (fun g=>by rw [g];exact j5 _) (fun g=>by rw [g];exact j5 _)
 have j3:∀ s,TotP (fun N=>Xa N p ⟨sh,ks,least,most⟩ s) (· = cond s 6 (cond (decide (p.ID=8) && !(Q0u p.Text)) 9 (cond (decide (sh=6)&&decide ((p.Text.length:Int)>65535)) 2 0))):=fun s=>by
  unfold Xa;refine Aw (fun g => .ret (by rw [g];rfl)) (fun g=>?_);rw [g,Q9];refine Aw (fun g=>?_) (fun g=>by rw [g];exact j4 _);rw [g];exact Au (Qfi _ h1) (j4 _)
 have j2:∀ t,TotP (fun N=>Yp N p ⟨sh,ks,least,most⟩ t) (· = cond (t && !(Vf p.Text&&Vf p.Value)) 6 (cond (decide (p.ID=8) && !(Q0u p.Text)) 9 (cond (decide (sh=6)&&decide ((p.Text.length:Int)>65535)) 2 0))):=fun t=>by
  unfold Yp;refine Aw (fun g=>?_) (fun g=>by rw [g];exact j3 _);rw [g];refine Au (Q4k _) (Aw (fun g=>by rw [bN g];exact j3 _) (fun g=>?_));rw [bP g];exact Au (Q4k _) (j3 _)
 have j1:∀ s,TotP (fun N=>Zo N p ⟨sh,ks,least,most⟩ s) (· = cond s 9 (cond (decide (sh=5∨sh=7) && !(Vf p.Text&&Vf p.Value)) 6 (cond (decide (p.ID=8) && !(Q0u p.Text)) 9 (cond (decide (sh=6)&&decide ((p.Text.length:Int)>65535)) 2 0)))):=fun s=>by
  unfold Zo;refine Aw (fun g => .ret (by rw [g];rfl)) (fun g=>?_);rw [g];show TotP (fun N=>cond (Q4 .eql sh 5) (Yp N p ⟨sh,ks,least,most⟩ true) (Yp N p ⟨sh,ks,least,most⟩ (Q4 .eql sh 7))) _;rw [Q9,Q9]
  have e:decide (sh=5∨sh=7)=(decide (sh=5)||decide (sh=7)):=by simp
  rw [e];exact Aw (fun g=>by rw [g];exact j2 _) (fun g=>by rw [g];exact j2 _)
 have j0:∀ s,TotP (fun N=>Qn N p ⟨sh,ks,least,most⟩ s) (· = cond s 2 (cond (decide (sh≤4)&&decide (p.N'<least∨most<p.N')) 9 (cond (decide (sh=5∨sh=7) && !(Vf p.Text&&Vf p.Value)) 6 (cond (decide (p.ID=8) && !(Q0u p.Text)) 9 (cond (decide (sh=6)&&decide ((p.Text.length:Int)>65535)) 2 0))))):=fun s=>by
  unfold Qn;refine Aw (fun g => .ret (by rw [g];rfl)) (fun g=>?_);rw [g];show TotP (fun N=>cond (Q4 .leq sh 4) (cond (Q4 .lss p.N' least) (Zo N p ⟨sh,ks,least,most⟩ true) (Zo N p ⟨sh,ks,least,most⟩ (Q4 .gtr p.N' most))) (Zo N p ⟨sh,ks,least,most⟩ false)) _;rw [X2,Qf,Qx]
  have e:decide (p.N'<least∨most<p.N')=(decide (p.N'<least)||decide (most<p.N')):=by simp
  rw [e];exact Aw (fun g=>by rw [g];exact Aw (fun g=>by rw [g];exact j1 _) (fun g=>by rw [g];exact j1 _)) (fun g=>by rw [g];exact j1 _)
 rw [X2,Q8t,Qp,Qp,Q8t]
 have e:decide ((sh≤4∧p.Text ≠ [])∨(¬ sh≤4∧p.N'≠0)∨(sh≠7∧p.Value ≠ []))=((decide (sh≤4)&&decide (p.Text ≠ []))||((!(decide (sh≤4))&&decide (p.N'≠0))||(decide (sh≠7)&&decide (p.Value ≠ [])))):=by simp only [Cu,Bg,decide_not,ne_eq]
 unfold Qs1;generalize (cond (decide (sh≤4)&&decide (p.N'<least∨most<p.N')) (9:Int) _)=R at j0 ⊢;rw [e];refine Aw (fun g=>?_) (fun g=>?_)
 ·rw [g];exact Aw (fun g=>by rw [g];exact j0 _) (fun g=>by rw [g];exact Aw (fun g=>by rw [g];exact j0 (decide (p.Value ≠ []))) (fun g=>by rw [g];exact j0 false))
 rw [g];exact Aw (fun g=>by rw [g];exact j0 _) (fun g=>by rw [g];exact Aw (fun g=>by rw [g];exact j0 (decide (p.Value ≠ []))) (fun g=>by rw [g];exact j0 false))
end
end
end Go.Av
namespace Go.Av
noncomputable section
def Z2n (id:Int) (w:Qc):Bool:=match Q5h F_prop_rules_tab id with
 | none=>w.kinds.isEmpty&&decide (w.shape=0)
 | some r=>(([1,2,3,4,5,6,7,8,9,10,11,12,13,14,15,16]:List Int).all fun k=>w.kinds.contains k == Qp6 r.kinds k)&&(decide (w.shape=r.shape∧w.least=r.least∧w.most=r.most)&&decide ((w.shape≤4∧id≠8)∨(w.shape=5∨w.shape=7)∨(w.shape=6∧id≠8)))
set_option maxRecDepth 20000 in
theorem Qxk (id:Int):∃ w:Qc,(∀ N,W0 N id=some w)∧Z2n id w=true∧w.kinds.length≤30:=by
 by_cases h1:id=1
 ·subst h1;exact ⟨_,fun _=>rfl,by decide +kernel,by decide⟩
 by_cases h2:id=2
 ·subst h2;exact ⟨_,fun _=>rfl,by decide +kernel,by decide⟩
 by_cases h3:id=3
 ·subst h3;exact ⟨_,fun _=>rfl,by decide +kernel,by decide⟩
 by_cases h8:id=8
 ·subst h8;exact ⟨_,fun _=>rfl,by decide +kernel,by decide⟩
 by_cases h9:id=9
 ·subst h9;exact ⟨_,fun _=>rfl,by decide +kernel,by decide⟩
 by_cases h11:id=11
 ·subst h11;exact ⟨_,fun _=>rfl,by decide +kernel,by decide⟩
 by_cases h17:id=17
 ·subst h17;exact ⟨_,fun _=>rfl,by decide +kernel,by decide⟩
 by_cases h18:id=18
 ·subst h18;exact ⟨_,fun _=>rfl,by decide +kernel,by decide⟩
 by_cases h26:id=26
 ·subst h26;exact ⟨_,fun _=>rfl,by decide +kernel,by decide⟩
 by_cases h19:id=19
 ·subst h19;exact ⟨_,fun _=>rfl,by decide +kernel,by decide⟩
 by_cases h21:id=21
 ·subst h21;exact ⟨_,fun _=>rfl,by decide +kernel,by decide⟩
 by_cases h22:id=22
 ·subst h22;exact ⟨_,fun _=>rfl,by decide +kernel,by decide⟩
 by_cases h23:id=23
 ·subst h23;exact ⟨_,fun _=>rfl,by decide +kernel,by decide⟩
 by_cases h25:id=25
 ·subst h25;exact ⟨_,fun _=>rfl,by decide +kernel,by decide⟩
 by_cases h24:id=24
 ·subst h24;exact ⟨_,fun _=>rfl,by decide +kernel,by decide⟩
 by_cases h28:id=28
 ·subst h28;exact ⟨_,fun _=>rfl,by decide +kernel,by decide⟩
 by_cases h31:id=31
 ·subst h31;exact ⟨_,fun _=>rfl,by decide +kernel,by decide⟩
 by_cases h33:id=33
 ·subst h33;exact ⟨_,fun _=>rfl,by decide +kernel,by decide⟩
 by_cases h34:id=34
 ·subst h34;exact ⟨_,fun _=>rfl,by decide +kernel,by decide⟩
 by_cases h35:id=35
 ·subst h35;exact ⟨_,fun _=>rfl,by decide +kernel,by decide⟩
 by_cases h36:id=36
 ·subst h36;exact ⟨_,fun _=>rfl,by decide +kernel,by decide⟩
 by_cases h37:id=37
 ·subst h37;exact ⟨_,fun _=>rfl,by decide +kernel,by decide⟩
 by_cases h40:id=40
 ·subst h40;exact ⟨_,fun _=>rfl,by decide +kernel,by decide⟩
 by_cases h41:id=41
 ·subst h41;exact ⟨_,fun _=>rfl,by decide +kernel,by decide⟩
 by_cases h42:id=42
 ·subst h42;exact ⟨_,fun _=>rfl,by decide +kernel,by decide⟩
 by_cases h38:id=38
 ·subst h38;exact ⟨_,fun _=>rfl,by decide +kernel,by decide⟩
 by_cases h39:id=39
 ·subst h39;exact ⟨_,fun _=>rfl,by decide +kernel,by decide⟩
 refine ⟨⟨0,[],0,0⟩,fun N=>?_,?_,by decide⟩
 ·unfold W0;simp only [Q9,Ab h1,Ab h2,Ab h3,Ab h8,Ab h9,Ab h11,Ab h17,Ab h18,Ab h26,Ab h19,Ab h21,Ab h22,Ab h23,Ab h25,Ab h24,Ab h28,Ab h31,Ab h33,Ab h34,Ab h35,Ab h36,Ab h37,Ab h40,Ab h41,Ab h42,Ab h38,Ab h39,Ah]
 have:Q5h F_prop_rules_tab id=none:=by
  cases hl:Q5h F_prop_rules_tab id with
  | none=>rfl
  | some r=>
   exfalso
   have hall:(F_prop_rules_tab.all fun q=>([1,2,3,8,9,11,17,18,26,19,21,22,23,25,24,28,31,33,34,35,36,37,40,41,42,38,39]:List Int).contains q.1)=true:=by decide +kernel
   have:=Me.1 hall _ (Qfd hl);simp at this;omega
 unfold Z2n;rw [this];rfl
def Qer (k:Int) (p:Q6):Int:=match Q5h F_prop_rules_tab p.ID with
 | none=>9
 | some r=>if Qp6 r.kinds k=true then Qy5 r.shape r.least r.most p else 9
def Qup (k id:Int):Bool:=decide (id=38)||(decide (id=11)&&decide (k=3))
def Qgt (l:List Q6) (id:Int):Bool:=l.any fun p=>decide (p.ID=id)
def Q83 (k:Int):List Q6->List Q6->Int
 | pre,[]=>if (Qgt pre 22 && !(Qgt pre 21))=true then 9 else 0
 | pre,p::r=>if Qer k p≠0 then Qer k p else if (Qgt pre p.ID && !(Qup k p.ID))=true then 9 else Q83 k (pre ++ [p]) r
def Qui (sh:Int) (p:Q6):List UInt8:=if sh=1 then Qbq p.N'.toNat 1 else if sh=2 then Qbq p.N'.toNat 2 else if sh=3 then Qbq p.N'.toNat 4 else if sh=4 then vb p.N'.toNat else Qhk p.Text++(if sh=7 then Qhk p.Value else [])
def Z0m (id:Int):Int:=match Q5h F_prop_rules_tab id with
 | none=>0
 | some r=>r.shape
def Z0d (p:Q6):List UInt8:=UInt8.ofNat (wrap .u8 p.ID).toNat::Qui (Z0m p.ID) p
def Qnk (l:List Q6):List UInt8:=l.flatMap Z0d
structure FitV (sh:Int) (p:Q6):Prop where
 num:sh≤4->0≤p.N'∧p.N'≤4294967295
 var:sh=4->p.N'≤268435455
 txt:p.Text.length≤65535
 val:p.Value.length≤65535
theorem Z8i {s:List UInt8} (h:Vf s=true):s.length≤65535:=by
 unfold Vf at h;simp only [La,Ag] at h;exact h.1
theorem Z7v {k:Int} {p:Q6} (h:Qer k p=0):∃ r,Q5h F_prop_rules_tab p.ID=some r∧Z0m p.ID=r.shape∧FitV r.shape p:=by
 unfold Qer at h;unfold Z0m
 cases hr:Q5h F_prop_rules_tab p.ID with
 | none=>rw [hr] at h;exact absurd (show (9:Int)=0 from h) (by decide)
 | some r=>
  rw [hr] at h;dsimp only at h ⊢;refine ⟨r,rfl,rfl,?_⟩;split at h
  ·have hall:(F_prop_rules_tab.all fun q=>decide (0≤q.2.least∧q.2.most≤4294967295∧(q.2.shape=4->q.2.most≤268435455)))=true:=by decide +kernel
   have ha:=Aa (Me.1 hall _ (Qfd hr));dsimp only at ha;unfold Qy5 at h
   by_cases h4:r.shape≤4
   ·rw [Af h4] at h
    by_cases ht:p.Text ≠ []∨p.Value ≠ []
    ·rw [Af ht] at h;omega
    rw [Ae ht] at h;have h1:p.Text = []:=Decidable.byContradiction fun x=>ht (.inl x);have h2:p.Value = []:=Decidable.byContradiction fun x=>ht (.inr x)
    by_cases hn:p.N'<r.least∨r.most<p.N'
    ·rw [Af hn] at h;omega
    exact ⟨fun _=>by omega,fun x=>by have:=ha.2.2 x;omega,by rw [h1];exact Ln _,by rw [h2];exact Ln _⟩
   rw [Ae h4] at h
   by_cases ht:p.N'≠0∨(r.shape≠7∧p.Value ≠ [])
   ·rw [Af ht] at h;omega
   rw [Ae ht] at h
   by_cases h6:r.shape=6
   ·rw [Af h6] at h;have h2:p.Value = []:=Decidable.byContradiction fun x=>ht (.inr ⟨by omega,x⟩)
    by_cases hl:65535<(p.Text.length:Int)
    ·rw [Af hl] at h;omega
    exact ⟨fun x=>absurd x h4,fun x=>by omega,by omega,by rw [h2];exact Ln _⟩
   rw [Ae h6] at h
   cases hv:(Vf p.Text&&Vf p.Value) with
   | false=>rw [hv,Af rfl] at h;omega
   | true=>
    rw [La] at hv;exact ⟨fun x=>absurd x h4,fun x=>by omega,Z8i hv.1,Z8i hv.2⟩
  omega
theorem V9 (s:List UInt8):(Qhk s).length=s.length+2:=by unfold Qhk;rw [Lf,Xr];omega
theorem Qib {sh:Int} {p:Q6} (h:FitV sh p):(Qui sh p).length≤140000:=by
 have h1:=h.txt;have h2:=h.val;unfold Qui
 repeat' split
 ·rw [Xr];omega
 ·rw [Xr];omega
 ·rw [Xr];omega
 ·rename_i h4;have:=h.var h4;have:=h.num (by omega);have:=Qum (n:=p.N'.toNat) (by omega);omega
 ·rw [Lf,V9,V9];omega
 rw [Lf,V9,Mc];omega
theorem Qx2 {sh:Int} {p:Q6} (h:FitV sh p):Tot (fun N=>Q1e N sh p) (Qui sh p):=by
 refine Ar ?_;have h1:=h.txt;have h2:=h.val;unfold Q1e Qui;simp only [Q9,Qp];refine Aw (fun g=>?_) (fun g=>?_)
 ·have g:=Aa g;have:=h.num (by omega);subst g;rw [Af rfl];exact Au (Q17 p.N' (by omega) 1 (by omega)) (.ret rfl)
 rw [Ae (Ac g)];refine Aw (fun g=>?_) (fun g=>?_)
 ·have g:=Aa g;have:=h.num (by omega);subst g;rw [Af rfl];exact Au (Q17 p.N' (by omega) 2 (by omega)) (.ret rfl)
 rw [Ae (Ac g)];refine Aw (fun g=>?_) (fun g=>?_)
 ·have g:=Aa g;have:=h.num (by omega);rw [Af g];exact Au (Q17 p.N' (by omega) 4 (by omega)) (.ret rfl)
 rw [Ae (Ac g)];refine Aw (fun g=>?_) (fun g=>?_)
 ·have g:=Aa g;have:=h.num (by omega);have:=h.var g;rw [Af g];have hv:=Qmb p.N'.toNat (by omega);rw [show ((p.N'.toNat:Nat):Int)=wrap .i64 p.N' by rw [w64 _ (by omega)];omega] at hv;exact Au hv (.ret rfl)
 rw [Ae (Ac g)];refine Au (Qmg _ h1) ?_;refine Aw (fun g=>?_) (fun g=>?_)
 ·rw [Ae (Aa g),Lu];exact .ret rfl
 rw [Af (Decidable.byContradiction fun x=>Ac g x)];refine Au (Qmg _ h2) ?_;exact Ax (by rw [Lm];simp only [V9];omega) (.ret rfl)
theorem Qyb {id:Int} {w:Qc} (h:Z2n id w=true):w.shape=Z0m id:=by
 unfold Z2n at h;unfold Z0m
 cases hr:Q5h F_prop_rules_tab id with
 | none=>rw [hr] at h;simp only [La,Ag] at h;exact h.2
 | some r=>rw [hr] at h;simp only [La,Ag] at h;exact h.2.1.1
theorem Qpp {p:Q6} (h:FitV (Z0m p.ID) p):Tot (fun N=>Ju N p) (Qui (Z0m p.ID) p):=by
 obtain ⟨w,hw,ho,_⟩:=Qxk p.ID;refine Ar ?_;have h1:=h.txt;have h2:=h.val;unfold Ju Qui;rw [← Qyb ho] at h ⊢;simp only [Q9];refine Au (.of hw) ?_;refine Aw (fun g=>?_) (fun g=>?_)
 ·have g:=Aa g;have:=h.num (by omega);rw [Af g];exact Au (Q3f p.N' (by omega) 1 (by omega)) (.ret rfl)
 rw [Ae (Ac g)];refine Aw (fun g=>?_) (fun g=>?_)
 ·have g:=Aa g;have:=h.num (by omega);rw [Af g];exact Au (Q3f p.N' (by omega) 2 (by omega)) (.ret rfl)
 rw [Ae (Ac g)];refine Aw (fun g=>?_) (fun g=>?_)
 ·have g:=Aa g;have:=h.num (by omega);rw [Af g];exact Au (Q3f p.N' (by omega) 4 (by omega)) (.ret rfl)
 rw [Ae (Ac g)];refine Aw (fun g=>?_) (fun g=>?_)
 ·have g:=Aa g;have:=h.num (by omega);have:=h.var g;rw [Af g];have hv:=Qm3 p.N'.toNat (by omega);rw [show ((p.N'.toNat:Nat):Int)=wrap .i64 p.N' by rw [w64 _ (by omega)];omega] at hv;exact Au hv (.ret rfl)
 rw [Ae (Ac g)];refine Au (Qna _ h1) ?_;refine Au (.of hw) ?_;refine Aw (fun g=>?_) (fun g=>?_)
 ·rw [Af (Aa g)];refine Au (Qna _ h2) ?_;exact Ax (by rw [Lm];simp only [V9];omega) (.ret rfl)
 rw [Ae (Ac g),Lu];exact .ret rfl
section
variable {k:Int} [hk:Kd k]
theorem Ztk (w:Qc) (hw:w.kinds.length≤30):Tot (fun N=>X5 N k w N 0) (w.kinds.contains k):=by
 refine Ar ?_;refine Q70 (L:=fun N n i=>X5 N k w n i) w.kinds.length (fun i=>∀ j (h:j<w.kinds.length),j<i->w.kinds[j]≠k) (fun i hi hj=>?_) (fun hj=>?_) (fun j _ hj=>by omega)
 ·show Stp _ _ _ (fun N n=>cond (Q4 .lss (i:Int) ((Q7 (cI .i64) w.kinds).length:Int)) _ _);rw [Q3,Qf];refine AE (fun _=>?_) (fun h=>by have:=Ac h;omega);refine AD (Z3 hi) ?_;rw [Q9];refine AE (fun h=>AA ?_) (fun h=>?_)
  ·exact (Mu.2 (by rw [← Aa h];exact Md hi)).symm
  rw [w64 _ (by omega)];refine AB (L:=fun N n i=>X5 N k w n i) _ ⟨by omega,fun j hj' hji=>?_⟩
  by_cases e:j=i
  ·subst e;exact Ac h
  exact hj j hj' (by omega)
 show Stp _ _ _ (fun N n=>cond (Q4 .lss (w.kinds.length:Int) ((Q7 (cI .i64) w.kinds).length:Int)) _ _);rw [Q3,Qf];refine AE (fun h=>by have:=Aa h;omega) (fun _=>AA ?_)
 cases hc:w.kinds.contains k with
 | false=>rfl
 | true=>
  obtain ⟨j,hj',e⟩:=Nh (Mu.1 hc);exact absurd e (hj j hj' hj')
theorem Z9n:k∈([1,2,3,4,5,6,7,8,9,10,11,12,13,14,15,16]:List Int):=by
 have h1:=hk.lo;have h2:=hk.hi;simp only [Ml,Bc,or_false];omega
def Z3d (k id:Int):Bool:=match Q5h F_prop_rules_tab id with
 | none=>false
 | some r=>Qp6 r.kinds k
theorem Qz4 {id:Int} {w:Qc} (h:Z2n id w=true):w.kinds.contains k=Z3d k id:=by
 unfold Z2n at h;unfold Z3d
 cases hr:Q5h F_prop_rules_tab id with
 | none=>
  rw [hr] at h;simp only [La,List.isEmpty_iff] at h;rw [h.1];rfl
 | some r=>
  rw [hr] at h;simp only [La,Me] at h;exact eq_of_beq (h.1 k Z9n)
theorem Z1d (id:Int):Tot (fun N=>J6 N k id) (Z3d k id):=by
 obtain ⟨w,hw,ho,hl⟩:=Qxk id;have:=Ztk (k:=k) w hl;rw [Qz4 ho] at this;refine Ar ?_;unfold J6;refine Au (.of hw) ?_;obtain ⟨N,h⟩:=this;exact ⟨_,rfl,N,h⟩
theorem Qyu (p:Q6) (h1:p.Text.length≤maxLen):Tot (fun N=>Jy N k p) (Qer k p):=by
 obtain ⟨w,hw,ho,hl⟩:=Qxk p.ID;refine Ar ?_;unfold Jy;refine Au (Z1d p.ID) ?_;unfold Z3d Qer;unfold Z2n at ho
 cases hr:Q5h F_prop_rules_tab p.ID with
 | none=>exact Aw (fun _ => .ret rfl) (fun g=>nomatch g)
 | some r=>
  rw [hr] at ho;dsimp only at ho ⊢;simp only [La,Ag] at ho;obtain ⟨_,⟨s1,s2,s3⟩,ho⟩:=ho;refine Aw (fun g => .ret (by rw [Ae (by rw [bN g];decide)])) (fun g=>?_);rw [Af (bP g)];refine Au (.of hw) ?_;have h:=Qyr w.shape w.least w.most w.kinds p h1
  have e:Qy5 w.shape w.least w.most p=Qy5 r.shape r.least r.most p:=by rw [s1,s2,s3]
  rw [Qw7 ho,e] at h;obtain ⟨N,h⟩:=h;exact ⟨_,rfl,N,h⟩
end
end
end Go.Av
namespace Go.Av
noncomputable section
def Qt3 (l:List Q6) (q:Int):Nat:=l.countP (fun p=>decide (p.ID=q))
theorem Qfq (l:List Q6) (q:Int):Qgt l q=decide (0<Qt3 l q):=by
 unfold Qgt Qt3;rw [Ce,Ag,List.countP_pos_iff,Nq]
theorem Qjn {l:List Q6} {i:Nat} (hi:i<l.length):l.take (i+1)=l.take i ++ [l[i]]:=by
 rw [Bs,Ld hi];rfl
theorem Qxp {l:List Q6} {i:Nat} (hi:i<l.length) (q:Int):Qt3 (l.take (i+1)) q=Qt3 (l.take i) q+(if l[i].ID=q then 1 else 0):=by
 unfold Qt3;rw [Qjn hi,List.countP_append]
 congr 1
 by_cases h:l[i].ID=q<;>simp [h]
theorem Z2l {l:List Q6} (hl:l.length≤30) (i:Nat) (q:Int):Qt3 (l.take i) q≤30:=by
 unfold Qt3;exact Na List.countP_le_length (by rw [Mk];omega)
theorem Z0r (k:Int) {l:List Q6} {i:Nat} (hi:i<l.length):Q83 k (l.take i) (l.drop i)=if Qer k l[i]≠0 then Qer k l[i] else if (Qgt (l.take i) l[i].ID && !(Qup k l[i].ID))=true then 9 else Q83 k (l.take (i+1)) (l.drop (i+1)):=by
 rw [Mp hi,Qjn hi];rfl
theorem Qvn (k:Int) (l:List Q6):Q83 k (l.take l.length) (l.drop l.length)=if (Qgt l 22 && !(Qgt l 21))=true then 9 else 0:=by
 rw [Nl,List.drop_length];rfl
theorem Qon {l:List Q6} {i:Nat} (hi:i<l.length):Qnk (l.take (i+1))=Qnk (l.take i)++Z0d l[i]:=by
 unfold Qnk;rw [Qjn hi,List.flatMap_append];simp
def Qkb (k:Int) (l:List Q6):List UInt8×Int:=if Q83 k [] l=0 then (vb (Qnk l).length++Qnk l,0) else ([],Q83 k [] l)
def Z7n (k:Int) (l:List Q6) (N n:Nat) (p:Int×List Int×List Int):Option (List UInt8×Int):=Zz N k l n p.1 p.2.1 p.2.2
def Z9d (k:Int) (l:List Q6) (p:Int×List Int×List Int):Prop:=∃ i:Nat,p.1=(i:Int)∧i≤l.length∧(∃ hb:p.2.1.length=64,∀ (q:Nat) (hq:q<64),p.2.1[q]=((Qt3 (l.take i) (q:Int):Nat):Int))∧(p.2.2.map fun n=>UInt8.ofNat n.toNat)=Qnk (l.take i)∧p.2.2.length≤i * 140001∧Q83 k (l.take i) (l.drop i)=Q83 k [] l
section
variable {k:Int} [hk:Kd k]
set_option maxRecDepth 20000 in
theorem Qwd (l:List Q6) (hl:l.length≤30) (hp:∀ p∈l,p.Text.length≤maxLen):TotP (fun N=>Zz N k l N 0 (List.replicate 64 0) []) (· = Qkb k l):=by
 have hf:∀ {e:Int},e≠0->e=Q83 k [] l->(([]:List UInt8),e)=Qkb k l:=fun h1 h2=>by unfold Qkb;rw [← h2,Ae h1]
 refine Qbi (L:=Z7n k l) (Q:=fun r=>r=Qkb k l) (Z9d k l) (fun p=>l.length - p.1.toNat) ?_ (0,List.replicate 64 0,[]) ⟨0,rfl,by omega,⟨Bu,fun q hq=>by rw [List.getElem_replicate];simp [Qt3]⟩,rfl,by simp,rfl⟩
 rintro ⟨s,b,o⟩ ⟨i,hs,hi,⟨hb,hc⟩,hm,ho,hJ⟩
 simp only at hs hb hc ho hm
 subst hs;show Stp _ _ _ (fun N n'=>cond (Q4 .lss (i:Int) ((Q7 Q6.cells l).length:Int)) _ _);rw [Q3,Qf];refine AE (fun h=>?_) (fun h=>?_)
 ·have hi:i<l.length:=by have h:=Aa h;omega
  refine AD (Z3 hi) ?_;have hT:=hp _ (Md hi);have hcs:=fun q=>Qxp (l:=l) hi q;have hla:=Z0r k hi;have hbn:=Qon hi;rw [hJ] at hla;generalize l[i]=y at hT hcs hla hbn
  have e1:wrap .i64 ((i:Int)+1)=((i+1:Nat):Int):=by rw [w64 _ (by omega)];omega
  have go:∀ (b' o':List Int),(∃ hb:b'.length=64,∀ (q:Nat) (hq:q<64),b'[q]=((Qt3 (l.take (i+1)) (q:Int):Nat):Int))->(o'.map fun n=>UInt8.ofNat n.toNat)=Qnk (l.take (i+1))->o'.length≤(i+1) * 140001->Q83 k (l.take (i+1)) (l.drop (i+1))=Q83 k [] l ->
    Stp (Z7n k l) (fun s'=>Z9d k l s'∧l.length - s'.1.toNat<l.length - (i:Int).toNat) (fun r=>r=Qkb k l) (fun N n=>Zz N k l n (wrap .i64 ((i:Int)+1)) b' o'):=by
   intro b' o' g1 g2 g3 g4;rw [e1];exact AB (L:=Z7n k l) ((i+1:Nat),b',o') ⟨⟨i+1,rfl,by omega,g1,g2,g3,g4⟩,by simp only [Lt];omega⟩
  show Stp _ _ _ (fun N n=>optC (Q5h F_prop_rules_tab y.ID) _ _)
  cases hr:Q5h F_prop_rules_tab y.ID with
  | none=>
   have he:Qer k y=9:=by unfold Qer;rw [hr]
   refine Stp.optN ?_;refine AC (V:=(· = 9)) ⟨9,rfl,Qxd k y⟩ (fun v hv=>?_);subst hv;exact AE (fun _=>AA (hf (by decide) (by rw [hla,he];rfl))) (fun h=>nomatch h)
  | some r=>
   have hid:=Qzu hr;obtain ⟨q,hk'⟩:∃ q:Nat,y.ID=(q:Int):=⟨y.ID.toNat,by omega⟩
   have hk64:q<64:=by omega
   refine Stp.optS ?_
   have hce:(if Qp6 r.kinds k=true then Qy5 r.shape r.least r.most y else 9)=Qer k y:=by unfold Qer;rw [hr]
   refine AC (V:=(· = Qer k y)) ⟨_,hce,Z1y r y hT⟩ (fun v hv=>?_);subst hv;rw [Qp];refine AE (fun g=>AA ?_) (fun g=>?_)
   ·have g:=Aa g;exact hf g (by rw [hla,Af g])
   have hok:Qer k y=0:=Decidable.byContradiction fun x=>Ac g x;rw [Ae (fun x=>x hok)] at hla;obtain ⟨r',hr',hsh,hfit⟩:=Z7v hok;rw [hr] at hr';cases hr';refine AF (by rw [hk'];simp only [La,Ag];omega) ?_;rw [hk'];refine AD (Z3 (show q<b.length by omega)) ?_;refine AD (Z3 (show q<b.length by omega)) ?_;refine AD (Z3 (show q<(b.set _ _).length by rw [Bf];omega)) ?_;have hbq:=hc q hk64;have hle:=Z2l hl i (q:Int);have ew:wrap .i64 (b[q]+1)=b[q]+1:=w64 _ (by omega)
   have hb':∃ hb:(b.set (Int.toNat (q:Int)) (wrap .i64 (b[q]+1))).length=64,∀ (q':Nat) (hq:q'<64),(b.set (Int.toNat (q:Int)) (wrap .i64 (b[q]+1)))[q']=((Qt3 (l.take (i+1)) (q':Int):Nat):Int):=by
    refine ⟨by rw [Bf];exact hb,fun q' hq'=>?_⟩;rw [hcs,hk'];simp only [Lt,ew]
    by_cases e:q'=q
    ·subst e;rw [List.getElem_set_self,Af rfl,hbq];omega
    rw [List.getElem_set_ne (fun x=>e x.symm),Ae (fun x=>e (by omega)),hc q' hq'];omega
   have hps:Z0d y=UInt8.ofNat (wrap .u8 (q:Int)).toNat::Qui r.shape y:=by unfold Z0d;rw [hsh,hk']
   have hvl:=Qib hfit
   have tail:(Qgt (l.take i) y.ID && !(Qup k y.ID))=false->Stp (Z7n k l) (fun s'=>Z9d k l s'∧l.length - s'.1.toNat<l.length - (i:Int).toNat) (fun r=>r=Qkb k l)
     (fun N n=>cond (Nat.ble ((o.length+1+4096) * 1) 17592186044416) ((Q1e N r.shape y).bind fun v130=>
      cond (Nat.beq v130.length 0)
      (Zz N k l n (wrap .i64 ((i:Int)+1)) (b.set (Int.toNat (q:Int)) (wrap .i64 (b[q]+1))) (o ++ [(wrap .u8 (q:Int))]))
      (cond (Nat.ble (((o.length+1)+v130.length+4096) * 1) 17592186044416) (Zz N k l n (wrap .i64 ((i:Int)+1)) (b.set (Int.toNat (q:Int)) (wrap .i64 (b[q]+1))) ((o ++ [(wrap .u8 (q:Int))])++(v130.map fun b=>(b.toNat:Int)))) none)) none):=fun h2=>by
    rw [Ae (by rw [h2];decide)] at hla;refine AF (by rw [Lm];omega) ?_;refine AC (V:=(· = Qui r.shape y)) ⟨_,rfl,Qx2 hfit⟩ (fun v hv=>?_);subst hv
    have hmm:((Qui r.shape y).map fun b=>(b.toNat:Int)).map (fun n=>UInt8.ofNat n.toNat)=Qui r.shape y:=by
     rw [List.map_map];exact (Cq fun x _=>by simp).trans (List.map_id _)
    refine AE (fun g=>?_) (fun _=>?_)
    ·refine go _ _ hb' ?_ ?_ hla.symm
     ·have:Qui r.shape y = []:=Mh.1 (No g);rw [Mz,hm,hbn,hps,this];rfl
     rw [Lf,Lx];omega
    refine AF (by rw [Lm];omega) ?_;refine go _ _ hb' ?_ ?_ hla.symm
    ·rw [Mz,Mz,hmm,hm,hbn,hps,Lq];rfl
    rw [Lf,Lf,Lx,Mm];omega
   have e3:(b.set (Int.toNat (q:Int)) (wrap .i64 (b[q]+1)))[q]'(by rw [Bf];omega)=b[q]+1:=by
    simp only [Lt];rw [List.getElem_set_self,ew]
   rw [e3,Qx]
   have hhas:Qgt (l.take i) y.ID=decide (b[q]+1>1):=by
    rw [Qfq,hk',hbq]
    by_cases e:0<Qt3 (l.take i) (q:Int)
    ·rw [Ad e,Ad (by omega)]
    rw [Ab e,Ab (by omega)]
   refine AE (fun g=>?_) (fun g=>tail (by rw [hhas,g];rfl));refine AC (V:=fun v=>v=Qup k y.ID) ⟨_,rfl,.of fun N=>?_⟩ (fun v hv=>?_)
   ·show cond (Q4 .eql (q:Int) 38) (some true) (cond (Q4 .eql (q:Int) 11) (some (Q4 .eql k 3)) (some false))=some (Qup k y.ID);rw [Q9,Q9,Q9,hk'];unfold Qup;cases decide ((q:Int)=38)<;>cases decide ((q:Int)=11)<;>rfl
   subst hv;refine AE (fun g2=>AA (hf (by decide) ?_)) (fun g2=>tail (by rw [bP g2,hhas];simp));rw [hla,Af (by rw [hhas,g,bN g2];rfl)]
 have e:i=l.length:=by have:=Ac h;omega
 subst e;refine Az ?_;rw [Qvn] at hJ;rw [Nl] at hm
 have c22:b[22]=((Qt3 l 22:Nat):Int):=by rw [hc 22 (by omega),Nl];rfl
 have c21:b[21]=((Qt3 l 21:Nat):Int):=by rw [hc 21 (by omega),Nl];rfl
 have vbt:(Qgt l 22 && !(Qgt l 21))=false->TotP (fun N=>(Ji N (o.length:Int)).bind fun v169=>cond (Q4 .neq v169.2 0) (some (([]:List UInt8),(4:Int))) (cond (Nat.ble (v169.1.length+(o.map fun n=>UInt8.ofNat n.toNat).length) 4611686018427387904) (some ((v169.1++(o.map fun n=>UInt8.ofNat n.toNat)),(0:Int))) none)) (fun r=>r=Qkb k l):=fun hx=>by
  rw [Ae (by rw [hx];decide)] at hJ
  have hol:o.length=(Qnk l).length:=by rw [← hm,Mm]
  have:=Qum (n:=o.length) (by omega);refine Au (Qmb o.length (by omega)) ?_;refine Aw (fun g=>nomatch g) (fun _=>?_);refine Ax (by rw [Lm,Mm];dsimp only;omega) (.ret ?_);unfold Qkb;rw [Af hJ.symm,hm,hol]
 refine Ay (Z3 (show 22<b.length by omega)) ?_;rw [c22,Qx];refine Aw (fun g=>?_) (fun g=>vbt ?_)
 ·have g:=Aa g;refine Ay (Z3 (show 21<b.length by omega)) ?_;rw [c21,Q9];refine Aw (fun g2 => .ret ?_) (fun g2=>vbt ?_)
  ·have g2:=Aa g2
   have hx:(Qgt l 22 && !(Qgt l 21))=true:=by rw [Qfq,Qfq,Ad (by omega),Ab (by omega)];rfl
   rw [Af hx] at hJ;exact hf (by decide) hJ
  have g2:=Ac g2;rw [Qfq l 21,Ad (by omega)];simp
 have g:=Ac g;rw [Qfq l 22,Ab (by omega)];rfl
theorem Q9p (l:List Q6) (hl:l.length≤30) (hp:∀ p∈l,p.Text.length≤maxLen):Tot (fun N=>V8 N k l) (Qkb k l):=by
 refine Ar ?_;unfold V8;rw [Q3,Qx];exact Aw (fun g=>absurd (Aa g) (by omega)) (fun _=>Qwd l hl hp)
theorem Z0o (l:List Q6):(Qkb k l).2=Q83 k [] l:=by
 unfold Qkb;split
 ·rename_i h;exact h.symm
 rfl
theorem Qit (l:List Q6) (hl:l.length≤30) (hp:∀ p∈l,p.Text.length≤maxLen):Tot (fun N=>X6 N k l) (Q83 k [] l):=by
 refine Ar ?_;unfold X6;exact Au (Q9p l hl hp) (.ret (Z0o l))
end
end
end Go.Av
namespace Go.Av
noncomputable section
theorem Qra (l:List Q6) (hl:l.length≤30) (id:Int):TotP (fun N=>Wp N l id) (fun v=>v.2=Qgt l id):=by
 unfold Wp;refine Q70 (L:=fun N n i=>W7 N l id n i) l.length (fun i=>∀ j (h:j<l.length),j<i->l[j].ID≠id) (fun i hi hj=>?_) (fun hj=>?_) (fun j _ hj=>by omega)
 ·show Stp _ _ _ (fun N n=>cond (Q4 .lss (i:Int) ((Q7 Q6.cells l).length:Int)) _ _);rw [Q3,Qf];refine AE (fun _=>?_) (fun h=>by have:=Ac h;omega);refine AD (Z3 hi) ?_;rw [Q9];refine AE (fun h=>?_) (fun h=>?_)
  ·refine AD (Z3 hi) (AA ?_);exact (Nq.2 ⟨_,Md hi,h⟩).symm
  rw [w64 _ (by omega)];refine AB (L:=fun N n i=>W7 N l id n i) _ ⟨by omega,fun j hj' hji=>?_⟩
  by_cases e:j=i
  ·subst e;exact Ac h
  exact hj j hj' (by omega)
 show Stp _ _ _ (fun N n=>cond (Q4 .lss (l.length:Int) ((Q7 Q6.cells l).length:Int)) _ _);rw [Q3,Qf];refine AE (fun h=>by have:=Aa h;omega) (fun _=>AA ?_)
 cases hc:Qgt l id with
 | false=>rfl
 | true=>
  obtain ⟨p,hp,e⟩:=Nq.1 hc;obtain ⟨j,hj',rfl⟩:=Nh hp;exact absurd (Aa e) (hj j hj' hj')
section
variable {k:Int} [hk:Kd k]
theorem Z2q (id:Int):Tot (fun N=>Gt N k id) (Z3d k id&&Qup k id):=by
 refine Ar ?_;unfold Gt Qup;refine Au (Z1d id) ?_;rw [Q9,Q9,Q9];refine Aw (fun g=>?_) (fun g => .ret (by rw [g];rfl));rw [g];refine Aw (fun g => .ret (by rw [g];rfl)) (fun g=>?_);rw [g];exact Aw (fun g => .ret (by rw [g];rfl)) (fun g => .ret (by rw [g];rfl))
theorem Z39 {p:Q6} (h:Qer k p=0):Z3d k p.ID=true:=by
 unfold Qer at h;unfold Z3d
 cases hr:Q5h F_prop_rules_tab p.ID with
 | none=>rw [hr] at h;exact absurd (show (9:Int)=0 from h) (by decide)
 | some r=>
  rw [hr] at h;dsimp only at h ⊢
  cases hb:Qp6 r.kinds k with
  | true=>rfl
  | false=>rw [hb,Ae (by decide)] at h;omega
theorem Qzq (l:List Q6) (hl:l.length≤30) (p:Q6) (h:Qer k p=0):Tot (fun N=>G0 N k l p.ID) (Qgt l p.ID && !(Qup k p.ID)):=by
 refine Ar ?_;unfold G0;refine At (Qra l hl p.ID) (fun v hv=>?_);rw [← hv];refine Aw (fun g=>?_) (fun g => .ret (by rw [g];rfl));refine Au (Z2q p.ID) (.ret ?_);rw [g,Z39 h];rfl
theorem Qxq (l:List Q6) (hl:l.length≤30) (hp:∀ p∈l,Qer k p=0):Tot (fun N=>Uo N l) (Qnk l):=by
 refine Ar ?_;unfold Uo;refine Qbi (L:=fun N n (q:List UInt8×Int)=>Xq N l n q.1 q.2) (fun q=>∃ i:Nat,q.2=(i:Int)∧i≤l.length∧q.1=Qnk (l.take i)∧q.1.length≤i * 140001) (fun q=>l.length - q.2.toNat) ?_ ([],0) ⟨0,rfl,by omega,rfl,by simp⟩
 rintro ⟨o,s⟩ ⟨i,hs,hi,ho,hlen⟩
 simp only at hs ho hlen
 subst hs;show Stp _ _ _ (fun N n=>cond (Q4 .lss (i:Int) ((Q7 Q6.cells l).length:Int)) _ _);rw [Q3,Qf];refine AE (fun h=>?_) (fun h=>AA ?_)
 ·have hi:i<l.length:=by have h:=Aa h;omega
  obtain ⟨r,hr,hsh,hfit⟩:=Z7v (hp _ (Md hi));have hv:=Qib hfit;refine AD (Z3 hi) ?_;refine AF (by rw [Lm];simp only [Lx];omega) ?_;refine AD (Z3 hi) ?_;refine AC (V:=(· = Qui (Z0m l[i].ID) l[i])) ⟨_,rfl,Qpp (by rw [hsh];exact hfit)⟩ (fun v hv2=>?_);subst hv2;rw [hsh];refine AF (by rw [Lm];simp only [Lf,Lx];omega) ?_;rw [w64 _ (by omega)];refine AB (L:=fun N n (q:List UInt8×Int)=>Xq N l n q.1 q.2) (_,((i:Int)+1)) ⟨⟨i+1,by simp only;omega,by omega,?_,?_⟩,by simp only;omega⟩
  ·rw [Qon hi,ho,Lq];unfold Z0d;rw [hsh];rfl
  simp only [Lf,Lx];omega
 have e:i=l.length:=by have:=Ac h;omega
 rw [ho,e,Nl]
theorem Qg0 (l:List Q6) (hl:l.length≤30) (hp:∀ p∈l,p.Text.length≤maxLen):Tot (fun N=>Yy N k l) (Q83 k [] l):=by
 refine Ar ?_;unfold Yy;rw [Q3,Qx];refine Aw (fun g=>absurd (Aa g) (by omega)) (fun _=>?_);refine Q70 (L:=fun N n i=>Xb N k l n i) l.length (fun i=>Q83 k (l.take i) (l.drop i)=Q83 k [] l∧∀ j (h:j<l.length),j<i->Qer k l[j]=0) (fun i hi hJ=>?_) (fun hJ=>?_) ⟨rfl,fun j _ h=>absurd h (Nat.not_lt_zero _)⟩
 ·obtain ⟨hJ,hc⟩:=hJ;have hla:=Z0r k hi;rw [hJ] at hla;show Stp _ _ _ (fun N n=>cond (Q4 .lss (i:Int) ((Q7 Q6.cells l).length:Int)) _ _);rw [Q3,Qf];refine AE (fun _=>?_) (fun h=>by have:=Ac h;omega);refine AD (Z3 hi) ?_;refine AC (V:=(· = Qer k l[i])) ⟨_,rfl,Qyu _ (hp _ (Md hi))⟩ (fun v hv=>?_);subst hv;rw [Qp];refine AE (fun g=>AA ?_) (fun g=>?_)
  ·rw [hla,Af (Aa g)]
  have hok:Qer k l[i]=0:=Decidable.byContradiction fun x=>Ac g x;rw [Ae (fun x=>x hok)] at hla;refine AF (Ad (by omega)) ?_;refine AF (by simp;omega) ?_;refine AD (Z3 hi) ?_;rw [Lt];refine AC (V:=(· = (Qgt (l.take i) l[i].ID && !(Qup k l[i].ID)))) ⟨_,rfl,Qzq (l.take i) (by rw [Mk];omega) _ hok⟩ (fun w hw=>?_);subst hw;refine AE (fun g=>AA ?_) (fun g=>?_)
  ·rw [hla,Af g]
  rw [Ae (by rw [g];decide)] at hla;rw [w64 _ (by omega)];refine AB (L:=fun N n i=>Xb N k l n i) _ ⟨by omega,hla.symm,fun j hj hji=>?_⟩
  by_cases e:j=i
  ·subst e;exact hok
  exact hc j hj (by omega)
 obtain ⟨hJ,hc⟩:=hJ;rw [Qvn] at hJ;show Stp _ _ _ (fun N n=>cond (Q4 .lss (l.length:Int) ((Q7 Q6.cells l).length:Int)) _ _);rw [Q3,Qf];refine AE (fun h=>by have:=Aa h;omega) (fun _=>Az ?_);refine Au (v:=(Qgt l 22 && !(Qgt l 21))) (Ar ?_) ?_
 ·unfold Q1n;refine At (Qra l hl 22) (fun a ha=>?_);refine At (Qra l hl 21) (fun b hb=>?_);rw [← ha,← hb];exact Aw (fun g => .ret (by rw [g];rfl)) (fun g => .ret (by rw [g];rfl))
 refine Aw (fun g => .ret (by rw [← hJ,Af g])) (fun g=>?_);rw [Ae (by rw [g];decide)] at hJ
 have hb:∀ p∈l,Qer k p=0:=fun p hp=>by
  obtain ⟨j,hj,rfl⟩:=Nh hp;exact hc j hj hj
 refine Au (Qxq l hl hb) ?_
 have hlen:(Qnk l).length≤30 * 140001:=by
  have:∀ m:List Q6,(∀ p∈m,Qer k p=0)->(Qnk m).length≤m.length * 140001:=fun m hm=>by
   induction m with
   | nil=>exact Ln _
   | cons a m ih=>
    obtain ⟨r,hr,hsh,hfit⟩:=Z7v (hm a Bn);have h1:=Qib hfit;have h2:=ih fun p hp=>hm p (Bi _ hp);show (Z0d a++Qnk m).length≤_;unfold Z0d;rw [hsh,Lf,Li,Li];omega
  exact Na (this l hb) (Ns _ hl)
 rw [Qx];exact Aw (fun g=>absurd (Aa g) (by omega)) (fun _ => .ret hJ)
end
end
end Go.Av
namespace Go.Av
noncomputable section
theorem Qph (p:Q1) (h1:p.Filters.length≤maxLen) (h2:p.Props.length≤maxLen) (h3:p.Will.Props.length≤maxLen):TotP (fun N=>Vg N p) (fun v=>v=true->Qdi p):=by
 have hm:=Qci
 have h30:300≤maxLen:=by unfold maxLen;decide
 have tail:(p.Filters.length≤30->∀ f∈p.Filters,f.Topic.length≤2000)->TotP (fun N=>cond (Q4 .leq (p.Topic.length:Int) 2000) (cond (Q4 .leq (p.Payload.length:Int) 2000) (cond (Q4 .leq (p.Client.length:Int) 2000) (cond (Q4 .leq (p.User.length:Int) 2000) (cond (Q4 .leq (p.Pass.length:Int) 2000)
  (cond (Q4 .leq (p.Will.Topic.length:Int) 2000) (cond (Q4 .leq (p.Will.Payload.length:Int) 2000) (cond (Q4 .leq ((Q7 (cI .i64) p.Codes).length:Int) 30) (cond (Q4 .leq (p.Filters.length:Int) 30)
  ((Zm N p.Props).bind fun v26=>cond v26 ((Zm N p.Will.Props).bind fun v29=>some v29) (some false)) (some false)) (some false)) (some false)) (some false)) (some false)) (some false)) (some false)) (some false)) (some false)) (fun v=>v=true->Qdi p):=by
  intro hf;rw [Q3]
  iterate 9 refine Aw (fun _=>?_) (fun _ => .ret (fun h=>nomatch h))
  rename_i a1 a2 a3 a4 a5 a6 a7 a8 a9;rw [X2] at a1 a2 a3 a4 a5 a6 a7 a8 a9;have a1:=Aa a1;have a2:=Aa a2;have a3:=Aa a3;have a4:=Aa a4;have a5:=Aa a5;have a6:=Aa a6;have a7:=Aa a7;have a8:=Aa a8;have a9:=Aa a9;refine At (Qja _ h2) (fun v hv=>Aw (fun hv1=>?_) (fun _ => .ret (fun h=>nomatch h)));refine At (Qja _ h3) (fun w hw => .ret (fun hw1=>?_));have g1:=hv hv1;have g2:=hw hw1;exact ⟨⟨by omega,by omega,by omega,by omega⟩,⟨g1.1,fun x hx=>Na (g1.2 x hx).1 h30⟩,⟨g2.1,fun x hx=>Na (g2.2 x hx).1 h30⟩,by omega,by omega,by omega,by omega,by omega,by omega,by omega,by omega,by omega,hf (by omega)⟩
 refine Q70 (L:=fun N n s=>Yb N p n s) p.Filters.length (fun i=>∀ j (h:j<p.Filters.length),j<i->(p.Filters[j]).Topic.length≤2000) (fun i hi hj=>?_) (fun hj=>?_) (fun j _ hj=>by omega)
 ·show Stp _ _ _ (fun N n=>cond (Q4 .lss (i:Int) ((Q7 Qa.cells p.Filters).length:Int)) _ _);rw [Q3,Qf];refine AE (fun _=>?_) (fun h=>by have:=Ac h;omega);refine AE (fun _=>?_) (fun h=>Az (tail (fun hc=>?_)))
  ·refine AD (Z3 hi) ?_;rw [Qx];refine AE (fun _=>AA (fun h=>nomatch h)) (fun h1=>?_);have h1:=Ac h1;rw [w64 _ (by omega)];refine AB (L:=fun N n s=>Yb N p n s) _ ⟨by omega,fun j hj' hji=>?_⟩
   by_cases e:j=i
   ·subst e;omega
   exact hj j hj' (by omega)
  rw [Qf] at h;have:=Ac h;omega
 show Stp _ _ _ (fun N n=>cond (Q4 .lss (p.Filters.length:Int) ((Q7 Qa.cells p.Filters).length:Int)) _ _);rw [Q3,Qf];refine AE (fun h=>by have:=Aa h;omega) (fun _=>Az (tail (fun _ f hf=>?_)));obtain ⟨j,hj',rfl⟩:=Nh hf;exact hj j hj' hj'
theorem Z2j (d:Q5m):TotP (fun N=>Uk N d) (fun v=>v=true->Z9g d):=by
 refine Aw (fun _ => .ret (fun h=>nomatch h)) (fun h0=>?_);rw [Q3,Qx] at h0;have h0:=Ac h0;refine At (V:=fun v=>v=true->OkM d.Msg) ?_ (fun v hv=>?_)
 ·show TotP (fun N=>cond (Q4 .leq (d.Msg.Name.length:Int) 70000) _ _) _;rw [X2,X2];refine Aw (fun h1 => .ret (fun h2=>?_)) (fun _ => .ret (fun h=>nomatch h));have h1:=Aa h1;have h2:=Aa h2;exact ⟨by omega,by omega⟩
 refine Aw (fun _ => .ret (fun h=>nomatch h)) (fun hn=>?_);have hM:=hv (by simpa using hn);refine Q70 (L:=fun N n s=>Zy N d n s) d.Hops.length (fun i=>∀ j (h:j<d.Hops.length),j<i->(d.Hops[j]).Node.length≤300) (fun i hi hj=>?_) (fun hj=>?_) (fun j _ hj=>by omega)
 ·show Stp _ _ _ (fun N n=>cond (Q4 .lss (i:Int) ((Q7 Q09.cells d.Hops).length:Int)) _ _);rw [Q3,Qf];refine AE (fun _=>?_) (fun h=>by have:=Ac h;omega);refine AD (Z3 hi) ?_;rw [Qx];refine AE (fun _=>AA (fun h=>nomatch h)) (fun h1=>?_);have h1:=Ac h1;rw [w64 _ (by omega)];refine AB (L:=fun N n s=>Zy N d n s) _ ⟨by omega,fun j hj' hji=>?_⟩
  by_cases e:j=i
  ·subst e;omega
  exact hj j hj' (by omega)
 show Stp _ _ _ (fun N n=>cond (Q4 .lss (d.Hops.length:Int) ((Q7 Q09.cells d.Hops).length:Int)) _ _);rw [Q3,Qf];refine AE (fun h=>by have:=Aa h;omega) (fun _=>AA (fun _=>⟨by omega,fun x hx=>?_,hM⟩));obtain ⟨j,hj',rfl⟩:=Nh hx;exact hj j hj' hj'
theorem Qyw (f:Y2) (hv:∀ x∈f.Values,OkV x):TotP (fun N=>Yo N f) (fun v=>v=true->FB f):=by
 obtain ⟨r,_,N0,h⟩:=Qwx f;refine ⟨r,fun hr=>?_,N0,h⟩;obtain ⟨b,h1,h2⟩:=Qpt (N:=max N0 800000000) (by omega) f;rw [show Yo (max N0 800000000) f=some r from h _ (by omega)] at h1;have:=h2 ((Am h1).symm.trans hr);exact Qze this.1 this.2.2 hv
structure LE (e:Qd):Prop where
 topic:e.Topic.length≤2000
 payload:e.Payload.length≤2000
 props:OkP e.Props
 pk:Qdi e.Packet
 dg:Z9g ⟨e.Hops,e.Msg⟩
 fb:FB e.Frame
theorem Qye (e:Qd) (h:OkE e) (hv:∀ x∈e.Frame.Values,OkV x):TotP (fun N=>G6 N e) (fun v=>v=true->LE e):=by
 have h30:300≤maxLen:=by unfold maxLen;decide
 refine Aw (fun h1=>?_) (fun _ => .ret (fun h=>nomatch h));refine Aw (fun h2=>?_) (fun _ => .ret (fun h=>nomatch h));rw [X2] at h1 h2;have h1:=Aa h1;have h2:=Aa h2;refine At (Qja _ h.props) (fun v hv1=>?_);refine Aw (fun h3=>?_) (fun _ => .ret (fun h=>nomatch h));refine At (Qph _ h.filters h.pprops h.wprops) (fun u hu=>?_);refine Aw (fun hu1=>?_) (fun _ => .ret (fun h=>nomatch h));refine At (Z2j _) (fun w hw=>?_);refine Aw (fun h4=>?_) (fun _ => .ret (fun h=>nomatch h));refine At (Qyw _ hv) (fun x hx => .ret (fun h5=>?_));have g:=hv1 h3;exact ⟨by omega,by omega,⟨g.1,fun x hx=>Na (g.2 x hx).1 h30⟩,hu hu1,hw h4,hx h5⟩
theorem Qca (N:Nat) (s:List Q6) (h:s.length≤100000):Q4j N s=some s:=by
 unfold Q4j
 cases s with
 | nil=>rfl
 | cons x s=>
  have e:Nat.beq (x::s).length 0=false:=rfl
  have e2:Nat.ble ((0+(x::s).length+4096) * 48) 17592186044416=true:=by rw [Lm];omega
  rw [e,e2];rfl
theorem Qqr (N:Nat) (s:List Q09) (h:s.length≤100000):Qa6 N s=some s:=by
 unfold Qa6
 cases s with
 | nil=>rfl
 | cons x s=>
  have e:Nat.beq (x::s).length 0=false:=rfl
  have e2:Nat.ble ((0+(x::s).length+4096) * 24) 17592186044416=true:=by rw [Lm];omega
  rw [e,e2];rfl
theorem Qqj (N:Nat) (s:List Int) (h:s.length≤100000):Qaj N s=some s:=by
 unfold Qaj
 cases s with
 | nil=>rfl
 | cons x s=>
  have e:Nat.beq (x::s).length 0=false:=rfl
  have e2:Nat.ble ((0+(x::s).length+4096) * 8) 17592186044416=true:=by rw [Lm];omega
  rw [e,e2];rfl
theorem Qkq (N:Nat) (s:List Qa) (h:s.length≤100000):Q6i N s=some s:=by
 unfold Q6i
 cases s with
 | nil=>rfl
 | cons x s=>
  have e:Nat.beq (x::s).length 0=false:=rfl
  have e2:Nat.ble ((0+(x::s).length+4096) * 40) 17592186044416=true:=by rw [Lm];omega
  rw [e,e2];rfl
theorem Qq9 (N:Nat) (p:Q1) (h:Qdi p):Q7k N p=some p:=by
 have h1:=h.codes;have h2:=h.filters.1;have h3:=h.props.len;have h4:=h.wprops.len;unfold Q7k;rw [Qqj N _ (by omega),Qkq N _ (by omega),Qca N _ (by omega),Qca N _ (by omega)];rfl
end
end Go.Av
namespace Go.Av
noncomputable section
theorem Z4p (a b:Qd):(((a.Msg.Type':Int) == b.Msg.Type')&&(((a.Msg.Flags.Dup:Bool) == b.Msg.Flags.Dup)&&(((a.Msg.Flags.QoS:Int) == b.Msg.Flags.QoS)&&(((a.Msg.Flags.Retain:Bool) == b.Msg.Flags.Retain)&&(((a.Msg.Flags.Will:Bool) == b.Msg.Flags.Will)&&(((a.Msg.Flags.Clean:Bool) == b.Msg.Flags.Clean)&&(((a.Msg.Flags.Type':Int) == b.Msg.Flags.Type')&&(((a.Msg.Gateway:Int) == b.Msg.Gateway)&&(((a.Msg.Radius:Int) == b.Msg.Radius)&&(((a.Msg.Time:Int) == b.Msg.Time)&&(((a.Msg.Timed:Bool) == b.Msg.Timed)&&(((a.Msg.TopicID:Int) == b.Msg.TopicID)&&(((a.Msg.MsgID:Int) == b.Msg.MsgID)&&(((a.Msg.Code:Int) == b.Msg.Code)&&(((a.Msg.Name:List UInt8) == b.Msg.Name)&&(((a.Msg.Data:List UInt8) == b.Msg.Data)&&true))))))))))))))))=true↔a.Msg=b.Msg:=by
 generalize a.Msg=m;generalize b.Msg=n;obtain ⟨a1,⟨f1,f2,f3,f4,f5,f6⟩,a2,a3,a4,a5,a6,a7,a8,a9,a10⟩:=m;obtain ⟨b1,⟨g1,g2,g3,g4,g5,g6⟩,b2,b3,b4,b5,b6,b7,b8,b9,b10⟩:=n;simp
 intros;simp only [and_assoc]
theorem Z9q {a b:Qd} (h0:a.Proto=b.Proto) (h1:a.Kind=b.Kind) (h2:a.Topic=b.Topic) (h3:a.Payload=b.Payload) (h4:a.QoS=b.QoS) (h5:a.Retain=b.Retain) (h6:a.Dup=b.Dup) (h7:a.ID=b.ID) (h8:a.Props=b.Props) (h9:a.Type'=b.Type') (h10:a.Hops=b.Hops) (h11:a.Channel=b.Channel) (h12:a.Packet=b.Packet) (h13:a.Msg=b.Msg) (h14:a.Frame=b.Frame):a=b:=by
 cases a;cases b;simp only at h0 h1 h2 h3 h4 h5 h6 h7 h8 h9 h10 h11 h12 h13 h14;subst h0 h1 h2 h3 h4 h5 h6 h7 h8 h9 h10 h11 h12 h13 h14;rfl
structure Z3n (a:Qd):Prop where
 props:a.Props.length≤maxLen
 hops:a.Hops.length≤maxLen
 pk:Qy7 a.Packet
 fr:Q2.szs a.Frame.Values<700000000
theorem Qnc (a b:Qd) (h:Z3n a):TotP (fun N=>Q18 N a b) (fun v=>v=true↔a=b):=by
 unfold Q18;simp only [Qp,Q8t];refine Aw (fun g => .ret ⟨fun e=>absurd e Lk,fun e=>absurd g (by rw [e];simp)⟩) (fun g=>?_)
 have e0:a.Proto=b.Proto:=by simpa using g
 clear g;refine Aw (fun g => .ret ⟨fun e=>absurd e Lk,fun e=>absurd g (by rw [e];simp)⟩) (fun g=>?_)
 have e1:a.Kind=b.Kind:=by simpa using g
 clear g;refine Aw (fun g => .ret ⟨fun e=>absurd e Lk,fun e=>absurd g (by rw [e];simp)⟩) (fun g=>?_)
 have e2:a.Topic=b.Topic:=by simpa using g
 clear g;refine Aw (fun g => .ret ⟨fun e=>absurd e Lk,fun e=>absurd g (by rw [e];simp)⟩) (fun g=>?_)
 have e3:a.Payload=b.Payload:=by simpa using g
 clear g;refine Aw (fun g => .ret ⟨fun e=>absurd e Lk,fun e=>absurd g (by rw [e];simp)⟩) (fun g=>?_)
 have e4:a.QoS=b.QoS:=by simpa using g
 clear g;refine Aw (fun g => .ret ⟨fun e=>absurd e Lk,fun e=>absurd g (by rw [e];simp)⟩) (fun g=>?_)
 have e5:a.Retain=b.Retain:=by simpa using g
 clear g;refine Aw (fun g => .ret ⟨fun e=>absurd e Lk,fun e=>absurd g (by rw [e];simp)⟩) (fun g=>?_)
 have e6:a.Dup=b.Dup:=by simpa using g
 clear g;refine Aw (fun g => .ret ⟨fun e=>absurd e Lk,fun e=>absurd g (by rw [e];simp)⟩) (fun g=>?_)
 have e7:a.ID=b.ID:=by simpa using g
 clear g;refine Aw (fun g => .ret ⟨fun e=>absurd e Lk,fun e=>absurd g (by rw [e];simp)⟩) (fun g=>?_)
 have e8:a.Type'=b.Type':=by simpa using g
 clear g;refine Aw (fun g => .ret ⟨fun e=>absurd e Lk,fun e=>absurd g (by rw [e];simp)⟩) (fun g=>?_)
 have e9:a.Channel=b.Channel:=by simpa using g
 clear g;refine At (Qoo _ _ h.props) (fun v1 g1=>?_);refine Aw (fun c1=>?_) (fun c1 => .ret ⟨fun e=>absurd e Lk,fun e=>absurd (g1.2 (by rw [e])) (by rw [c1];simp)⟩);refine At (Qqq _ _ h.hops) (fun v2 g2=>?_);refine Aw (fun c2=>?_) (fun c2 => .ret ⟨fun e=>absurd e Lk,fun e=>absurd (g2.2 (by rw [e])) (by rw [c2];simp)⟩);refine At (Q25 _ _ h.pk) (fun v3 g3=>?_);refine Aw (fun c3=>?_) (fun c3 => .ret ⟨fun e=>absurd e Lk,fun e=>absurd (g3.2 (by rw [e])) (by rw [c3];simp)⟩);refine Aw (fun c4=>?_) (fun c4 => .ret ⟨fun e=>absurd e Lk,fun e=>absurd ((Z4p a b).2 (by rw [e])) (by rw [c4];simp)⟩);refine At (f:=fun N=>Q0f N a.Frame b.Frame) (V:=fun v=>v=decide (a.Frame=b.Frame)) ⟨_,rfl,800000000,fun N hN=>Qpf hN _ _ h.fr⟩ (fun v g => .ret ?_);have q:=(Z4p a b).1 c4;rw [g,Ag];exact ⟨fun e=>Z9q e0 e1 e2 e3 e4 e5 e6 e7 (g1.1 c1) e8 (g2.1 c2) e9 (g3.1 c3) q e,fun e=>by rw [e]⟩
structure PubT (e:Qd) (c t b:Bool):Prop where
 known:e.Proto=1∨e.Proto=2∨e.Proto=3∨e.Proto=4
 kind:e.Kind=1
 qos:(0≤e.QoS∧e.QoS≤2)∨(e.Proto=3∧e.QoS = -1)
 id:0≤e.ID∧e.ID≤65535
 cid:c=decide (e.ID≠0)
 dup:e.Dup=true->c=true∨e.Proto=3
 props:0<e.Props.length->e.Proto=2
 ty:e.Proto=3->t=true
 ty2:e.Proto≠3->e.Type'=0∧e.Hops.length=0
 ch:0≤e.Channel∧e.Channel≤65535
 ch4:e.Channel≠0->e.Proto=4
 bare:b=true
section
end
end
end Go.Av
namespace Go.Av
noncomputable section
theorem Qcc (a b:List Q6) (ha:a.length≤maxLen):TotP (fun N=>V2 N a b) (fun v=>v=true↔a=b):=by
 unfold V2;rw [Q3,Q3,Qp];refine Aw (fun h => .ret ⟨fun h=>(by cases h),fun e=>?_⟩) (fun h=>?_)
 ·have:=Aa h;subst e;exact absurd rfl this
 have h:=Ac h
 have hab:a.length=b.length:=by omega
 refine Qex (L:=fun N n i=>Wt N a b n i) (eq:=fun x y=>((x.ID:Int) == y.ID)&&(((x.N':Int) == y.N')&&(((x.Text:List UInt8) == y.Text)&&(((x.Value:List UInt8) == y.Value)&&true)))) (fun _ _=>Z4a) hab ha (fun N n i h h'=>?_) (fun N n=>?_)
 ·show cond (Q4 .lss (i:Int) ((Q7 Q6.cells a).length:Int)) ((idx a (i:Int)).bind _) _=_;rw [Q3,Qf,Ad (by omega),Z3 h,Z3 h'];rfl
 show cond (Q4 .lss (a.length:Int) ((Q7 Q6.cells a).length:Int)) _ _=_;rw [Q3,Qf,Ab (by omega)];rfl
theorem Qpw (a b:List Q09) (ha:a.length≤maxLen):TotP (fun N=>Gr N a b) (fun v=>v=true↔a=b):=by
 unfold Gr;rw [Q3,Q3,Qp];refine Aw (fun h => .ret ⟨fun h=>(by cases h),fun e=>?_⟩) (fun h=>?_)
 ·have:=Aa h;subst e;exact absurd rfl this
 have h:=Ac h
 have hab:a.length=b.length:=by omega
 refine Qex (L:=fun N n i=>Ww N a b n i) (eq:=fun x y=>((x.Radius:Int) == y.Radius)&&(((x.Node:List UInt8) == y.Node)&&true)) (fun _ _=>Znz) hab ha (fun N n i h h'=>?_) (fun N n=>?_)
 ·show cond (Q4 .lss (i:Int) ((Q7 Q09.cells a).length:Int)) ((idx a (i:Int)).bind _) _=_;rw [Q3,Qf,Ad (by omega),Z3 h,Z3 h'];rfl
 show cond (Q4 .lss (a.length:Int) ((Q7 Q09.cells a).length:Int)) _ _=_;rw [Q3,Qf,Ab (by omega)];rfl
theorem Qkr (a b:List Qa) (ha:a.length≤maxLen):TotP (fun N=>U8 N a b) (fun v=>v=true↔a=b):=by
 unfold U8;rw [Q3,Q3,Qp];refine Aw (fun h => .ret ⟨fun h=>(by cases h),fun e=>?_⟩) (fun h=>?_)
 ·have:=Aa h;subst e;exact absurd rfl this
 have h:=Ac h
 have hab:a.length=b.length:=by omega
 refine Qex (L:=fun N n i=>Xp N a b n i) (eq:=fun x y=>((x.Topic:List UInt8) == y.Topic)&&(((x.QoS:Int) == y.QoS)&&(((x.NoLocal:Bool) == y.NoLocal)&&(((x.AsPublished:Bool) == y.AsPublished)&&(((x.Handling:Int) == y.Handling)&&true))))) (fun _ _=>Qwy) hab ha (fun N n i h h'=>?_) (fun N n=>?_)
 ·show cond (Q4 .lss (i:Int) ((Q7 Qa.cells a).length:Int)) ((idx a (i:Int)).bind _) _=_;rw [Q3,Qf,Ad (by omega),Z3 h,Z3 h'];rfl
 show cond (Q4 .lss (a.length:Int) ((Q7 Qa.cells a).length:Int)) _ _=_;rw [Q3,Qf,Ab (by omega)];rfl
theorem Qqs (a b:List Int) (ha:a.length≤maxLen):TotP (fun N=>Gq N a b) (fun v=>v=true↔a=b):=by
 unfold Gq;rw [Q3,Q3,Qp];refine Aw (fun h => .ret ⟨fun h=>(by cases h),fun e=>?_⟩) (fun h=>?_)
 ·have:=Aa h;subst e;exact absurd rfl this
 have h:=Ac h
 have hab:a.length=b.length:=by omega
 refine Qex (L:=fun N n i=>Wv N a b n i) (eq:=fun x y=>Q4 .eql x y) (fun x y=>by rw [Q9];exact decide_eq_true_iff) hab ha (fun N n i h h'=>?_) (fun N n=>?_)
 ·show cond (Q4 .lss (i:Int) ((Q7 (cI .i64) a).length:Int)) ((idx a (i:Int)).bind _) _=_;rw [Q3,Qf,Ad (by omega),Z3 h,Z3 h'];simp only [Ll,Ai,Qp,Q9,decide_not]
 show cond (Q4 .lss (a.length:Int) ((Q7 (cI .i64) a).length:Int)) _ _=_;rw [Q3,Qf,Ab (by omega)];rfl
theorem Jt (a b:Q1) (h:Qy7 a):TotP (fun N=>Qk N a b) (fun v=>v=true↔a=b):=by
 unfold Qk;simp only [Qp,Q8t];refine Aw (fun g => .ret ⟨fun e=>absurd e Lk,fun e=>absurd g (by rw [e];simp)⟩) (fun g=>?_)
 have e0:a.Will.Topic=b.Will.Topic:=by simpa using g
 clear g;refine Aw (fun g => .ret ⟨fun e=>absurd e Lk,fun e=>absurd g (by rw [e];simp)⟩) (fun g=>?_)
 have e1:a.Will.Payload=b.Will.Payload:=by simpa using g
 clear g;refine Aw (fun g => .ret ⟨fun e=>absurd e Lk,fun e=>absurd g (by rw [e];simp)⟩) (fun g=>?_)
 have e2:a.Will.QoS=b.Will.QoS:=by simpa using g
 clear g;refine Aw (fun g => .ret ⟨fun e=>absurd e Lk,fun e=>absurd g (by rw [e];simp)⟩) (fun g=>?_)
 have e3:a.Will.Retain=b.Will.Retain:=by simpa using g
 clear g;refine At (Qcc _ _ h.wprops) (fun v hv=>?_);refine Aw (fun g => .ret ⟨fun e=>absurd e Lk,fun e=>absurd (hv.2 (by rw [e])) (by simpa using g)⟩) (fun g=>?_);have e4:a.Will.Props=b.Will.Props:=hv.1 (by simpa using g);clear g hv;refine Aw (fun g => .ret ⟨fun e=>absurd e Lk,fun e=>absurd g (by rw [e];simp)⟩) (fun g=>?_)
 have e5:a.Kind=b.Kind:=by simpa using g
 clear g;refine Aw (fun g => .ret ⟨fun e=>absurd e Lk,fun e=>absurd g (by rw [e];simp)⟩) (fun g=>?_)
 have e6:a.Dup=b.Dup:=by simpa using g
 clear g;refine Aw (fun g => .ret ⟨fun e=>absurd e Lk,fun e=>absurd g (by rw [e];simp)⟩) (fun g=>?_)
 have e7:a.Retain=b.Retain:=by simpa using g
 clear g;refine Aw (fun g => .ret ⟨fun e=>absurd e Lk,fun e=>absurd g (by rw [e];simp)⟩) (fun g=>?_)
 have e8:a.QoS=b.QoS:=by simpa using g
 clear g;refine Aw (fun g => .ret ⟨fun e=>absurd e Lk,fun e=>absurd g (by rw [e];simp)⟩) (fun g=>?_)
 have e9:a.ID=b.ID:=by simpa using g
 clear g;refine Aw (fun g => .ret ⟨fun e=>absurd e Lk,fun e=>absurd g (by rw [e];simp)⟩) (fun g=>?_)
 have e10:a.Topic=b.Topic:=by simpa using g
 clear g;refine Aw (fun g => .ret ⟨fun e=>absurd e Lk,fun e=>absurd g (by rw [e];simp)⟩) (fun g=>?_)
 have e11:a.Payload=b.Payload:=by simpa using g
 clear g;refine Aw (fun g => .ret ⟨fun e=>absurd e Lk,fun e=>absurd g (by rw [e];simp)⟩) (fun g=>?_)
 have e12:a.Clean=b.Clean:=by simpa using g
 clear g;refine Aw (fun g => .ret ⟨fun e=>absurd e Lk,fun e=>absurd g (by rw [e];simp)⟩) (fun g=>?_)
 have e13:a.KeepAlive=b.KeepAlive:=by simpa using g
 clear g;refine Aw (fun g => .ret ⟨fun e=>absurd e Lk,fun e=>absurd g (by rw [e];simp)⟩) (fun g=>?_)
 have e14:a.Client=b.Client:=by simpa using g
 clear g;refine Aw (fun g => .ret ⟨fun e=>absurd e Lk,fun e=>absurd g (by rw [e];simp)⟩) (fun g=>?_)
 have e15:a.HasUser=b.HasUser:=by simpa using g
 clear g;refine Aw (fun g => .ret ⟨fun e=>absurd e Lk,fun e=>absurd g (by rw [e];simp)⟩) (fun g=>?_)
 have e16:a.User=b.User:=by simpa using g
 clear g;refine Aw (fun g => .ret ⟨fun e=>absurd e Lk,fun e=>absurd g (by rw [e];simp)⟩) (fun g=>?_)
 have e17:a.HasPass=b.HasPass:=by simpa using g
 clear g;refine Aw (fun g => .ret ⟨fun e=>absurd e Lk,fun e=>absurd g (by rw [e];simp)⟩) (fun g=>?_)
 have e18:a.Pass=b.Pass:=by simpa using g
 clear g;refine Aw (fun g => .ret ⟨fun e=>absurd e Lk,fun e=>absurd g (by rw [e];simp)⟩) (fun g=>?_)
 have e19:a.HasWill=b.HasWill:=by simpa using g
 clear g;refine Aw (fun g => .ret ⟨fun e=>absurd e Lk,fun e=>absurd g (by rw [e];simp)⟩) (fun g=>?_)
 have e20:a.Session=b.Session:=by simpa using g
 clear g;refine Aw (fun g => .ret ⟨fun e=>absurd e Lk,fun e=>absurd g (by rw [e];simp)⟩) (fun g=>?_)
 have e21:a.Code=b.Code:=by simpa using g
 clear g;refine At (Qqs _ _ h.codes) (fun v hv=>?_);refine Aw (fun g=>?_) (fun g => .ret ⟨fun e=>absurd e Lk,fun e=>absurd (hv.2 (by rw [e])) (by rw [g];decide)⟩);have e22:a.Codes=b.Codes:=hv.1 g;clear g hv;refine At (Qkr _ _ h.filters) (fun v hv=>?_);refine Aw (fun g=>?_) (fun g => .ret ⟨fun e=>absurd e Lk,fun e=>absurd (hv.2 (by rw [e])) (by rw [g];decide)⟩);have e23:a.Filters=b.Filters:=hv.1 g;clear g hv;refine At (Qcc _ _ h.props) (fun v hv => .ret ⟨fun g=>?_,fun e=>hv.2 (by rw [e])⟩);have el:a.Props=b.Props:=hv.1 g;obtain ⟨a0,a1,a2,a3,a4,a5,a6,a7,a8,a9,a10,a11,a12,a13,a14,⟨w0,w1,w2,w3,w4⟩,a16,a17,a18,a19,a20⟩:=a;obtain ⟨b0,b1,b2,b3,b4,b5,b6,b7,b8,b9,b10,b11,b12,b13,b14,⟨x0,x1,x2,x3,x4⟩,b16,b17,b18,b19,b20⟩:=b
 simp_all
theorem Qu3 (x y:Qbr):(((x.Type':Int) == y.Type')&&(((x.Flags.Dup:Bool) == y.Flags.Dup)&&(((x.Flags.QoS:Int) == y.Flags.QoS)&&(((x.Flags.Retain:Bool) == y.Flags.Retain)&&(((x.Flags.Will:Bool) == y.Flags.Will)&&(((x.Flags.Clean:Bool) == y.Flags.Clean)&&(((x.Flags.Type':Int) == y.Flags.Type')&&(((x.Gateway:Int) == y.Gateway)&&(((x.Radius:Int) == y.Radius)&&(((x.Time:Int) == y.Time)&&(((x.Timed:Bool) == y.Timed)&&(((x.TopicID:Int) == y.TopicID)&&(((x.MsgID:Int) == y.MsgID)&&(((x.Code:Int) == y.Code)&&(((x.Name:List UInt8) == y.Name)&&(((x.Data:List UInt8) == y.Data)&&true))))))))))))))))=true↔x=y:=by
 obtain ⟨a,⟨b,c,d,e,f,g⟩,h,i,j,k,l,m,n,o,p⟩:=x;obtain ⟨a',⟨b',c',d',e',f',g'⟩,h',i',j',k',l',m',n',o',p'⟩:=y;simp [and_assoc]
theorem Qfu (a b:Qd) (h:Z3n a):TotP (fun N=>Un N a b) (fun v=>v=true↔a=b):=by
 unfold Un;simp only [Q9,Gz];refine Aw (fun g=>?_) (fun g => .ret ⟨fun e=>absurd e Lk,fun e=>absurd g (by rw [e];simp)⟩)
 have e24:a.Proto=b.Proto:=by simpa using g
 clear g;refine Aw (fun g=>?_) (fun g => .ret ⟨fun e=>absurd e Lk,fun e=>absurd g (by rw [e];simp)⟩)
 have e25:a.Kind=b.Kind:=by simpa using g
 clear g;refine Aw (fun g=>?_) (fun g => .ret ⟨fun e=>absurd e Lk,fun e=>absurd g (by rw [e];simp)⟩)
 have e26:a.Topic=b.Topic:=by simpa using g
 clear g;refine Aw (fun g=>?_) (fun g => .ret ⟨fun e=>absurd e Lk,fun e=>absurd g (by rw [e];simp)⟩)
 have e27:a.Payload=b.Payload:=by simpa using g
 clear g;refine Aw (fun g=>?_) (fun g => .ret ⟨fun e=>absurd e Lk,fun e=>absurd g (by rw [e];simp)⟩)
 have e28:a.QoS=b.QoS:=by simpa using g
 clear g;refine Aw (fun g=>?_) (fun g => .ret ⟨fun e=>absurd e Lk,fun e=>absurd g (by rw [e];simp)⟩)
 have e29:a.Retain=b.Retain:=by simpa using g
 clear g;refine Aw (fun g=>?_) (fun g => .ret ⟨fun e=>absurd e Lk,fun e=>absurd g (by rw [e];simp)⟩)
 have e30:a.Dup=b.Dup:=by simpa using g
 clear g;refine Aw (fun g=>?_) (fun g => .ret ⟨fun e=>absurd e Lk,fun e=>absurd g (by rw [e];simp)⟩)
 have e31:a.ID=b.ID:=by simpa using g
 clear g;refine At (Qcc _ _ h.props) (fun v hv=>?_);refine Aw (fun g=>?_) (fun g => .ret ⟨fun e=>absurd e Lk,fun e=>absurd (hv.2 (by rw [e])) (by rw [g];decide)⟩);have e32:a.Props=b.Props:=hv.1 g;clear g hv;refine Aw (fun g=>?_) (fun g => .ret ⟨fun e=>absurd e Lk,fun e=>absurd g (by rw [e];simp)⟩)
 have e33:a.Type'=b.Type':=by simpa using g
 clear g;refine At (Qpw _ _ h.hops) (fun v hv=>?_);refine Aw (fun g=>?_) (fun g => .ret ⟨fun e=>absurd e Lk,fun e=>absurd (hv.2 (by rw [e])) (by rw [g];decide)⟩);have e34:a.Hops=b.Hops:=hv.1 g;clear g hv;refine Aw (fun g=>?_) (fun g => .ret ⟨fun e=>absurd e Lk,fun e=>absurd g (by rw [e];simp)⟩)
 have e35:a.Channel=b.Channel:=by simpa using g
 clear g;refine At (Jt _ _ h.pk) (fun v hv=>?_);refine Aw (fun g=>?_) (fun g => .ret ⟨fun e=>absurd e Lk,fun e=>absurd (hv.2 (by rw [e])) (by rw [g];decide)⟩);have e36:a.Packet=b.Packet:=hv.1 g;clear g hv;refine Aw (fun g=>?_) (fun g => .ret ⟨fun e=>absurd e Lk,fun e=>absurd ((Qu3 a.Msg b.Msg).2 (by rw [e])) (by rw [g];decide)⟩);have e37:a.Msg=b.Msg:=(Qu3 _ _).1 g;clear g;refine At (V:=fun v=>v=true↔a.Frame=b.Frame) ⟨decide (a.Frame=b.Frame),decide_eq_true_iff,800000000,fun N hN=>Qhh hN _ _ h.fr⟩ (fun v hv => .ret ⟨fun g=>?_,fun e=>hv.2 (by rw [e])⟩);have el:a.Frame=b.Frame:=hv.1 g;cases a;cases b
 simp_all
end
end Go.Av
namespace Go.Av
noncomputable section
def Qqu (k c:Int):Bool:=(Qz7 k c).getD false
theorem Qi5 (k c:Int):Tot (fun N=>Q13 N k c) (Qqu k c):=by
 obtain ⟨r,_,N0,h⟩:=Qv1 k c;have e:Qz7 k c=some r:=h N0 (Lj _);refine .of fun N=>?_;show Qz7 k c=_;unfold Qqu;rw [e];rfl
def Qu4 (k:Int):List Int:=if k=2 then [0,128,129,130,131,132,133,134,135,136,137,138,140,144,149,151,153,154,155,156,157,159] else if k=4∨k=5 then [0,16,128,131,135,144,145,151,153] else if k=6∨k=7 then [0,146] else
 if k=9 then [0,1,2,128,131,135,143,145,151,158,161,162] else if k=11 then [0,17,128,131,135,143,145] else if k=14 then [0,4,128,129,130,131,135,137,139,141,142,143,144,147,148,149,150,151,152,153,154,155,156,157,158,159,160,161,162] else if k=15 then [0,24,25] else []
theorem Qwz (k:Int):∀ c∈Qu4 k,0≤c∧c<256:=by
 unfold Qu4
 repeat' split
 all_goals decide
theorem Qw2 (k c:Int):Qqu k c=(Qu4 k).contains c:=by
 by_cases hc:0≤c∧c<256
 ·obtain ⟨n,rfl⟩:∃ n:Nat,c=(n:Int):=⟨c.toNat,by omega⟩
  have hn:n<256:=by omega
  have key:∀ k∈([2,4,5,6,7,9,11,14,15]:List Int),∀ n:Fin 256,Qqu k ((n.val:Nat):Int)=(Qu4 k).contains ((n.val:Nat):Int):=by decide +kernel
  by_cases hk:k∈([2,4,5,6,7,9,11,14,15]:List Int)
  ·exact key k hk ⟨n,hn⟩
  simp only [Ml,Bc,or_false,not_or] at hk
  have e:Qu4 k = []:=by unfold Qu4;simp [hk]
  have z:Qgv k=Qgv 0:=by
   unfold Qgv rcodesT
   have f:∀ j:Int,k≠j->(j == k)=false:=fun j h=>by simp;exact fun x=>h x.symm
   simp only [List.find?,f _ hk.1,f _ hk.2.1,f _ hk.2.2.1,f _ hk.2.2.2.1,f _ hk.2.2.2.2.1,f _ hk.2.2.2.2.2.1,f _ hk.2.2.2.2.2.2.1,f _ hk.2.2.2.2.2.2.2.1,f _ hk.2.2.2.2.2.2.2.2];rfl
  have key0:∀ n:Fin 256,Qqu 0 ((n.val:Nat):Int)=false:=by decide +kernel
  have:Qqu k (n:Int)=Qqu 0 (n:Int):=by unfold Qqu Qz7;rw [z]
  rw [this,e];exact key0 ⟨n,hn⟩
 have h2:(Qu4 k).contains c=false:=by
  cases h:(Qu4 k).contains c with
  | false=>rfl
  | true=>exact absurd (Qwz k c (Mu.1 h)) hc
 rw [h2];obtain ⟨w0,w1,w2,w3,e,_⟩:=Qk0 k;unfold Qqu Qz7;rw [e];unfold Z7k;rw [Xv,Qf]
 by_cases h0:0≤c
 ·rw [Ad (p:=c≥0) h0,Ab (p:=c<256) (by omega)];rfl
 rw [Ab (p:=c≥0) h0];rfl
theorem Qya (k:Int):Tot (fun N=>Q0d N k) (Qu4 k):=by
 unfold Q0d Qu4;simp only [Q9]
 by_cases h2:k=2
 ·subst h2;exact ⟨60,fun N hN=>by obtain ⟨M,rfl⟩:∃ M,N=M+60:=⟨N - 60,by omega⟩;rfl⟩
 by_cases h4:k=4
 ·subst h4;exact .of fun _=>rfl
 by_cases h5:k=5
 ·subst h5;exact .of fun _=>rfl
 by_cases h6:k=6
 ·subst h6;exact .of fun _=>rfl
 by_cases h7:k=7
 ·subst h7;exact .of fun _=>rfl
 by_cases h9:k=9
 ·subst h9;exact .of fun _=>rfl
 by_cases h11:k=11
 ·subst h11;exact .of fun _=>rfl
 by_cases h14:k=14
 ·subst h14;exact ⟨60,fun N hN=>by obtain ⟨M,rfl⟩:∃ M,N=M+60:=⟨N - 60,by omega⟩;rfl⟩
 by_cases h15:k=15
 ·subst h15;exact .of fun _=>rfl
 refine .of fun _=>?_;simp [h2,h4,h5,h6,h7,h9,h11,h14,h15]
theorem Qia (k c:Int):Tot (fun N=>Qy N k c) (Qqu k c):=by
 rw [Qw2];refine Ar ?_;unfold Qy;refine Au (Qya k) ?_
 have hl:(Qu4 k).length≤40:=by unfold Qu4;(repeat' split)<;>decide
 generalize Qu4 k=l at hl;refine Q70 (L:=fun N n i=>W6 N c l n i) l.length (fun i=>∀ j (h:j<l.length),j<i->l[j]≠c) (fun i hi hj=>?_) (fun hj=>?_) (fun j _ hj=>by omega)
 ·show Stp _ _ _ (fun N n=>cond (Q4 .lss (i:Int) ((Q7 (cI .i64) l).length:Int)) _ _);rw [Q3,Qf];refine AE (fun _=>?_) (fun h=>by have:=Ac h;omega);refine AD (Z3 hi) ?_;rw [Q9];refine AE (fun h=>AA ?_) (fun h=>?_)
  ·exact (Mu.2 (by rw [← Aa h];exact Md hi)).symm
  rw [w64 _ (by omega)];refine AB (L:=fun N n i=>W6 N c l n i) _ ⟨by omega,fun j hj' hji=>?_⟩
  by_cases e:j=i
  ·subst e;exact Ac h
  exact hj j hj' (by omega)
 show Stp _ _ _ (fun N n=>cond (Q4 .lss (l.length:Int) ((Q7 (cI .i64) l).length:Int)) _ _);rw [Q3,Qf];refine AE (fun h=>by have:=Aa h;omega) (fun _=>AA ?_)
 cases hc:l.contains c with
 | false=>rfl
 | true=>
  obtain ⟨j,hj',e⟩:=Nh (Mu.1 hc);exact absurd e (hj j hj' hj')
end
end Go.Av
namespace Go.Av
noncomputable section
def Z2g (p:Q1):Q1:=⟨p.Kind,false,false,0,p.ID,[],[],false,0,[],false,[],false,[],false,(⟨[],[],0,false,[]⟩:Y5),false,p.Code,[],[],p.Props⟩
def Qo9 (v:Int) (p:Q1):Prop:=(v=4∨v=5)∧(4≤p.Kind∧p.Kind≤7)∧(1≤p.ID∧p.ID≤65535)∧Qqu p.Kind p.Code=true∧(v=4->p.Code=0∧p.Props = [])∧p=Z2g p
open Classical in
noncomputable def Qsk (v:Int) (p:Q1):Int:=if Qo9 v p then Q83 p.Kind [] p.Props else 2
theorem Qc8 {v:Int} {p:Q1} (h:¬ Qo9 v p):TotP (fun _=>some (2:Int)) (· = Qsk v p) := .ret (by unfold Qsk;rw [Ae h])
theorem Qek (N:Nat) (v:Int):Z7 N v=some (decide (v=4∨v=5)):=by
 unfold Z7;rw [Q9,Q9]
 by_cases h:v=4
 ·rw [Ad h,Ad (p:=v=4∨v=5) (.inl h)];rfl
 rw [Ab h,Cu,Ab h];rfl
section
variable {p:Q1} (h:Qdi p)
include h
theorem Q9u (k:Int) [Kd k]:Tot (fun N=>X6 N k p.Props) (Q83 k [] p.Props):=Qit _ h.props.len h.props.txt
theorem Q7c {v k:Int} [Kd k] (hv:v=4->p.Props = []):Tot (fun N=>Q5 N v k p.Props) (Q83 k [] p.Props):=by
 refine Ar ?_;unfold Q5;rw [Q9];refine Aw (fun g=>?_) (fun _=>?_)
 ·rw [hv (Aa g)];exact Aw (fun g=>nomatch g) (fun _ => .ret rfl)
 exact Au (Qg0 _ h.props.len h.props.txt) (.ret rfl)
theorem Z8k (v:Int):Tot (fun N=>Q87 N v p) (Qsk v p):=by
 refine Ar ?_
 have hkn:∀ N,Q86 N v p.Kind=some (decide ((v=4∨v=5)∧4≤p.Kind∧p.Kind≤7)):=fun N=>by
  unfold Q86;rw [Q9,Q9,Xv,X2]
  by_cases h4:v=4<;>by_cases h5:v=5<;>by_cases hk:4≤p.Kind<;>by_cases hk2:p.Kind≤7<;>simp [h4,h5,hk,hk2]
 unfold Q87;refine Au (.of hkn) ?_;refine Aw (fun g=>Qc8 fun x=>?_) (fun g=>?_)
 ·have g:¬ _:=Ac (bN g);exact g ⟨x.1,x.2.1⟩
 obtain ⟨gv,gk⟩:=Aa (bP g)
 haveI:Kd p.Kind:=⟨by omega,by omega⟩
 rw [X2,Xv];refine Aw (fun g=>Qc8 fun x=>by have:=Aa g;have:=x.2.2.1;omega) (fun g1=>?_);refine Aw (fun g=>Qc8 fun x=>by have:=Aa g;have:=x.2.2.1;omega) (fun g2=>?_);have g1:=Ac g1;have g2:=Ac g2;refine Au (Qi5 _ _) ?_;refine Aw (fun g=>Qc8 fun x=>by have:=x.2.2.2.1;rw [bN g] at this;cases this) (fun g3=>?_)
 have fin:(v=4->p.Code=0∧p.Props = [])->TotP (fun N=>(Z5 N p (Z2g p)).bind fun v12=>cond (!v12) (some (2:Int)) ((X6 N p.Kind p.Props).bind fun v15=>some v15)) (· = Qsk v p):=fun h4=>by
  refine At (Q25 p (Z2g p) h.l) (fun b hb=>?_);refine Aw (fun g=>Qc8 fun x=>by rw [hb.2 x.2.2.2.2.2] at g;cases g) (fun g=>?_);refine Au (Q9u h p.Kind) (.ret ?_);unfold Qsk;rw [Af ⟨gv,gk,by omega,bP g3,h4,hb.1 (bP g)⟩]
 rw [Q9,Qp,Qp,Q3];refine Aw (fun g4=>?_) (fun g4=>fin fun x=>absurd x (Ac g4));have g4:=Aa g4;refine Aw (fun g=>Qc8 fun x=>Aa g (x.2.2.2.2.1 g4).1) (fun g5=>?_);refine Aw (fun g=>Qc8 fun x=>Aa g (by rw [(x.2.2.2.2.1 g4).2];rfl)) (fun g6=>?_);exact fin fun _=>⟨Decidable.byContradiction fun x=>Ac g5 x,Mh.1 (by have:¬ ¬ _:=Ac g6;omega)⟩
theorem Z5m (v:Int):Tot (fun N=>Vz N v p) (Qsk v p):=by
 refine Ar ?_;unfold Vz
 have hr:TotP (fun N=>Jw N v p) (fun b=>b=true↔Qo9 v p):=by
  have no:¬ Qo9 v p->TotP (fun _=>some false) (fun b=>b=true↔Qo9 v p):=fun x => .ret ⟨fun y=>(nomatch y),fun y=>absurd y x⟩;unfold Jw;refine Au (.of fun N=>Qek N v) ?_;refine Aw (fun g=>no fun x=>Ac (bN g) x.1) (fun gv=>?_);have gv:=Aa (bP gv);rw [Qf,Qx];refine Aw (fun g=>no fun x=>by have:=Aa g;have:=x.2.1;omega) (fun g1=>?_);refine Aw (fun g=>no fun x=>by have:=Aa g;have:=x.2.1;omega) (fun g2=>?_);have g1:=Ac g1;have g2:=Ac g2
  have tail:(v=4->p.Code=0∧p.Props = [])->p=Z2g p->TotP (fun N=>cond (Q4 .geq p.ID 1) (cond (Q4 .leq p.ID 65535) ((Qy N p.Kind p.Code).bind fun v17=>some v17) (some false)) (some false)) (fun b=>b=true↔Qo9 v p):=fun h4 hu=>by
   rw [Xv,X2];refine Aw (fun g3=>?_) (fun g=>no fun x=>Ac g x.2.2.1.1);refine Aw (fun g4=>?_) (fun g=>no fun x=>Ac g x.2.2.1.2);have g3:=Aa g3;have g4:=Aa g4;exact Au (Qia _ _) (.ret ⟨fun y=>⟨gv,by omega,⟨g3,g4⟩,y,h4,hu⟩,fun x=>x.2.2.2.1⟩)
  rw [Q9,Qp,Qx,Q3];refine Aw (fun g4=>?_) (fun g4=>?_)
  ·have g4:=Aa g4;refine Aw (fun g=>?_) (fun g5=>?_)
   ·have nn:¬ Qo9 v p:=fun x=>Aa g (x.2.2.2.2.1 g4).1;exact At (Jt p (Z2g p) h.l) (fun b _=>Aw (fun _=>no nn) (fun _=>no nn))
   refine At (Jt p (Z2g p) h.l) (fun b hb=>?_);refine Aw (fun gb=>?_) (fun gb=>no fun x=>by rw [hb.2 x.2.2.2.2.2] at gb;cases gb);refine Aw (fun g6=>?_) (fun g=>no fun x=>?_)
   ·have g6:=Ac (bN g6);exact tail (fun _=>⟨Decidable.byContradiction fun x=>Ac g5 x,Mh.1 (by omega)⟩) (hb.1 gb)
   have:=Aa (bP g);rw [(x.2.2.2.2.1 g4).2] at this;exact absurd this (by decide)
  refine At (Jt p (Z2g p) h.l) (fun b hb=>?_);refine Aw (fun gb=>?_) (fun gb=>no fun x=>by rw [hb.2 x.2.2.2.2.2] at gb;cases gb);exact tail (fun x=>absurd x (Ac g4)) (hb.1 gb)
 refine At hr (fun b hb=>?_);refine Aw (fun g=>Qc8 fun x=>by rw [hb.2 x] at g;cases g) (fun g=>?_);have hx:=hb.1 (bP g)
 haveI:Kd p.Kind:=⟨by have:=hx.2.1;omega,by have:=hx.2.1;omega⟩
 refine Au (Q7c h (fun x=>(hx.2.2.2.2.1 x).2)) (.ret ?_);unfold Qsk;rw [Af hx]
def Qu6 (k c:Int) (l:List Q6):List UInt8:=if c=0∧l = [] then [] else Qbq c.toNat 1++(if l = [] then [] else (Qkb k l).1)
noncomputable def Z4j (v:Int) (p:Q1):List UInt8×Int:=if Qsk v p=0 then (Qbq p.ID.toNat 2++Qu6 p.Kind p.Code p.Props,0) else ([],Qsk v p)
end
end
end Go.Av
namespace Go.Av
noncomputable section
theorem Z7s {k:Int}:∀ {l pre:List Q6},Q83 k pre l=0->∀ p∈l,Qer k p=0
 | [],_,_,p,hp=>nomatch hp
 | a::l,pre,h,p,hp=>by
  have e:Q83 k pre (a::l)=if Qer k a≠0 then Qer k a else if (Qgt pre a.ID && !(Qup k a.ID))=true then 9 else Q83 k (pre ++ [a]) l:=rfl;rw [e] at h
  by_cases h1:Qer k a≠0
  ·rw [Af h1] at h;exact absurd h h1
  rw [Ae h1] at h;have h1:Qer k a=0:=Decidable.byContradiction h1
  by_cases h2:(Qgt pre a.ID && !(Qup k a.ID))=true
  ·rw [Af h2] at h;exact absurd h (by decide)
  rw [Ae h2] at h
  rcases Ml.1 hp with rfl | hp
  ·exact h1
  exact Z7s h p hp
theorem Qmt {k:Int}:∀ {l:List Q6},(∀ p∈l,Qer k p=0)->(Qnk l).length≤l.length * 140001
 | [],_=>Ln _
 | a::l,hm=>by
  obtain ⟨r,hr,hsh,hfit⟩:=Z7v (hm a Bn);have h1:=Qib hfit;have h2:=Qmt fun p hp=>hm p (Bi _ hp);show (Z0d a++Qnk l).length≤_;unfold Z0d;rw [hsh,Lf,Li,Li];omega
theorem Qdl {k:Int} {l:List Q6} (hl:l.length≤30):(Qkb k l).1.length≤4200100:=by
 unfold Qkb;split
 ·rename_i h;have:=Qmt (Z7s h)
  have h2:(Qnk l).length≤4200030:=by omega
  have:=Qum (n:=(Qnk l).length) (by omega);simp only [Lf];omega
 exact Ln _
section
variable {k:Int} [hk:Kd k]
theorem Z5h (l:List Q6) (hl:l.length≤30) (hp:∀ p∈l,p.Text.length≤maxLen):Tot (fun N=>Jr N k l) (Qkb k l):=by
 refine Ar ?_;unfold Jr Qkb;refine Au (Qg0 l hl hp) ?_;rw [Qp];refine Aw (fun g => .ret (by rw [Ae (Aa g)])) (fun g=>?_);have h0:Q83 k [] l=0:=Decidable.byContradiction fun x=>Ac g x;rw [Af h0];have hb:=Qmt (Z7s h0);refine Au (Qxq l hl (Z7s h0)) ?_;refine Au (Qm3 _ (by omega)) ?_;have:=Qum (n:=(Qnk l).length) (by omega);exact Ax (by rw [Lm];dsimp only;omega) (.ret rfl)
theorem Qrn {v:Int} (hv:v=4∨v=5) (l:List Q6) (hl:l.length≤30) (hp:∀ p∈l,p.Text.length≤maxLen):Tot (fun N=>Z0 N v k l) (if v=4 then [] else (Qkb k l).1):=by
 refine Ar ?_;unfold Z0;rw [Q9];refine Aw (fun g => .ret (by rw [Af (Aa g)])) (fun g=>?_);rw [Ae (Ac g)];exact Au (Z5h l hl hp) (.ret rfl)
end
theorem Qv6 (c:Int) (h:0≤c∧c<256) : [UInt8.ofNat (wrap .u8 c).toNat]=Qbq c.toNat 1:=by
 show _ = [UInt8.ofNat (c.toNat % 256)];rw [Qpz]
 congr 2
 omega
section
variable {p:Q1} (h:Qdi p)
include h
theorem Qsa {v:Int} (h0:Qsk v p=0):Qo9 v p∧Q83 p.Kind [] p.Props=0:=by
 unfold Qsk at h0;split at h0
 ·exact ⟨by assumption,h0⟩
 exact absurd h0 (by decide)
theorem Qpl {k c:Int} (hc:Qqu k c=true):0≤c∧c<256:=by
 rw [Qw2] at hc;exact Qwz k c (Mu.1 hc)
theorem Z8e (v:Int):Tot (fun N=>Q7e N v p) (Z4j v p):=by
 refine Ar ?_;unfold Q7e Z4j;refine Au (Z8k h v) ?_;rw [Qp];refine Aw (fun g => .ret (by rw [Ae (Aa g)])) (fun g=>?_);have h0:Qsk v p=0:=Decidable.byContradiction fun x=>Ac g x;obtain ⟨ok,hl0⟩:=Qsa h h0;rw [Af h0];have hc:=Qpl h ok.2.2.2.1;have hid:=ok.2.2.1
 haveI:Kd p.Kind:=⟨by have:=ok.2.1;omega,by have:=ok.2.1;omega⟩
 have hb2:=Xr 2 p.ID.toNat;have hb1:=Xr 1 p.Code.toNat;have hw:=Qdl (k:=p.Kind) h.props.len;have hpb:Tot (fun N=>V8 N p.Kind p.Props) (Qkb p.Kind p.Props):=Q9p _ h.props.len h.props.txt;refine Au (Q17 p.ID (by omega) 2 (by omega)) ?_;unfold Qu6;rw [Qp,Qp,Q3];refine Aw (fun g1=>?_) (fun g1=>?_)
 ·have g1:=Aa g1;rw [Ae (fun x=>g1 x.1)];refine Au (Q17 p.Code (by omega) 1 (by omega)) ?_;refine Ax (by rw [Lm];omega) ?_;refine Aw (fun g2=>?_) (fun g2=>?_)
  ·have g2:=Aa g2;rw [Ae (fun x=>g2 (by rw [x];rfl))];refine Au hpb ?_;exact Ax (by rw [Lm];simp only [Lf];omega) (.ret (by rw [Lq]))
  have g2:p.Props = []:=Mh.1 (by have:¬ ¬ _:=Ac g2;omega);rw [Af g2,Lu];exact .ret rfl
 have g1:p.Code=0:=Decidable.byContradiction fun x=>Ac g1 x;refine Aw (fun g2=>?_) (fun g2=>?_)
 ·have g2:=Aa g2;have g2:p.Props ≠ []:=fun x=>g2 (by rw [x];rfl);rw [Ae (fun x=>g2 x.2),Ae g2];refine Au (Q17 p.Code (by omega) 1 (by omega)) ?_;refine Ax (by rw [Lm];omega) ?_;refine Au hpb ?_;exact Ax (by rw [Lm];simp only [Lf];omega) (.ret (by rw [Lq]))
 have g2:p.Props = []:=Mh.1 (by have:¬ ¬ _:=Ac g2;omega);rw [Af ⟨g1,g2⟩,Lu];exact .ret rfl
theorem Z0w {v k c:Int} [Kd k] (hv:v=4∨v=5) (hc:0≤c∧c<256) (h4:v=4->c=0∧p.Props = []):Tot (fun N=>Vs N v k c p.Props) (Qu6 k c p.Props):=by
 refine Ar ?_;have hw:=Qdl (k:=k) h.props.len;unfold Vs Qu6;rw [Q9,Qp,Qx,Q3];refine Aw (fun g=>?_) (fun g=>?_)
 ·have g:=Aa g;subst g;have ht:Tot (fun N=>Z0 N 5 k p.Props) (Qkb k p.Props).1:=Qrn (.inr rfl) _ h.props.len h.props.txt;refine Aw (fun g1=>?_) (fun g1=>?_)
  ·have g1:=Aa g1;rw [Ae (fun x=>g1 x.1),← Qv6 c hc];refine Aw (fun g2=>?_) (fun g2=>?_)
   ·have g2:=Aa g2;rw [Ae (fun x=>by rw [x] at g2;exact absurd g2 (by decide))];refine Au ht ?_;exact Ax (by rw [Lm];simp only [Lx];omega) (.ret rfl)
   have g2:p.Props = []:=Mh.1 (by have:=Ac g2;omega);rw [Af g2];exact .ret rfl
  have g1:c=0:=Decidable.byContradiction fun x=>Ac g1 x;refine Aw (fun g2=>?_) (fun g2=>?_)
  ·have g2:=Aa g2
   have g2:p.Props ≠ []:=fun x=>by rw [x] at g2;exact absurd g2 (by decide)
   rw [Ae (fun x=>g2 x.2),Ae g2,← Qv6 c hc];refine Au ht ?_;exact Ax (by rw [Lm];simp only [Lx];omega) (.ret rfl)
  have g2:p.Props = []:=Mh.1 (by have:=Ac g2;omega);rw [Af ⟨g1,g2⟩];exact .ret rfl
 have:v=4:=hv.resolve_right (Ac g);rw [Af (h4 this)];exact .ret rfl
theorem Qmh {k c:Int}:(Qu6 k c p.Props).length≤4200200:=by
 have hw:=Qdl (k:=k) h.props.len;have hb:=Xr 1 c.toNat;unfold Qu6
 repeat' split
 ·exact Ln _
 ·rw [Lu];omega
 rw [Lf];omega
theorem Z8x (v:Int):Tot (fun N=>Gw N v p) (Z4j v p):=by
 refine Ar ?_;unfold Gw Z4j;refine Au (Z5m h v) ?_;rw [Qp];refine Aw (fun g => .ret (by rw [Ae (Aa g)])) (fun g=>?_);have h0:Qsk v p=0:=Decidable.byContradiction fun x=>Ac g x;obtain ⟨ok,hl0⟩:=Qsa h h0;rw [Af h0];have hc:=Qpl h ok.2.2.2.1;have hid:=ok.2.2.1
 haveI:Kd p.Kind:=⟨by have:=ok.2.1;omega,by have:=ok.2.1;omega⟩
 have hb2:=Xr 2 p.ID.toNat;have hs:=Qmh h (k:=p.Kind) (c:=p.Code);refine Au (Q3f p.ID (by omega) 2 (by omega)) ?_;refine Au (Z0w h ok.1 hc ok.2.2.2.2.1) ?_;exact Ax (by rw [Lm];omega) (.ret rfl)
end
end
end Go.Av
namespace Go.Av
noncomputable section
def Z7t (p:Q1):Q1:=⟨p.Kind,false,false,0,0,[],[],false,0,[],false,[],false,[],false,(⟨[],[],0,false,[]⟩:Y5),false,p.Code,[],[],p.Props⟩
def Z6k (p:Q1):Q1:=⟨p.Kind,false,false,0,0,[],[],false,0,[],false,[],false,[],false,(⟨[],[],0,false,[]⟩:Y5),false,0,[],[],[]⟩
def Qb9 (v k:Int):Prop:=k=12∨k=13∨(k=14∧v=4)
instance (v k:Int):Decidable (Qb9 v k):=by unfold Qb9;infer_instance
def Qun (v k:Int):Prop:=(v=4∨v=5)∧12≤k∧k≤15
instance (v k:Int):Decidable (Qun v k):=by unfold Qun;infer_instance
def Qua (v:Int) (p:Q1):Prop:=(Qb9 v p.Kind->p=Z6k p)∧(¬ Qb9 v p.Kind->Qqu p.Kind p.Code=true∧p=Z7t p)
open Classical in
noncomputable def Qlv (v:Int) (p:Q1):Int:=if Qun v p.Kind then (if p.Kind=15∧v=4 then 8 else if Qua v p then Q83 p.Kind [] p.Props else 2) else 2
section
variable {v:Int} {p:Q1} (h:Qdi p)
theorem Qrp (h1:¬ Qun v p.Kind):Qlv v p=2:=by unfold Qlv;rw [Ae h1]
theorem Z1u (h1:Qun v p.Kind) (h2:p.Kind=15∧v=4):Qlv v p=8:=by unfold Qlv;rw [Af h1,Af h2]
theorem Qxh (h1:Qun v p.Kind) (h2:¬ (p.Kind=15∧v=4)) (h3:¬ Qua v p):Qlv v p=2:=by unfold Qlv;rw [Af h1,Ae h2,Ae h3]
theorem Qm2 (h1:Qun v p.Kind) (h2:¬ (p.Kind=15∧v=4)) (h3:Qua v p):Qlv v p=Q83 p.Kind [] p.Props:=by unfold Qlv;rw [Af h1,Ae h2,Af h3]
theorem Z63 (N:Nat) (h1:12≤p.Kind∧p.Kind≤15):Q07 N v p.Kind=some (decide ((p.Kind=14∨p.Kind=15)∧v=5),true):=by
 have:p.Kind=12∨p.Kind=13∨p.Kind=14∨p.Kind=15:=by omega
 unfold Q07 Uf Gv;rw [Q9]
 rcases this with e | e | e | e<;>rw [e]<;>simp
theorem Z5g (N:Nat):Q35 N v p.Kind=some (if Qun v p.Kind then (if p.Kind=15∧v=4 then 8 else 0) else 2):=by
 unfold Q35
 by_cases h1:12≤p.Kind∧p.Kind≤15
 ·rw [Z63 N h1];show cond (Q4 .neq v 4) _ _=_;rw [Qp,Qp,Q9,Q9]
  by_cases h4:v=4<;>by_cases h5:v=5<;>by_cases hk:p.Kind=15<;>simp [h4,h5,hk,Qun]<;>omega
 rw [Ae (fun x=>h1 x.2)]
 have e:Q07 N v p.Kind=some (false,false):=by
  unfold Q07
  have f:∀ j:Int,p.Kind≠j->((p.Kind:Int) == j)=false:=fun j x=>by simp;exact x
  rw [f 12 (by omega),f 13 (by omega),f 14 (by omega),f 15 (by omega)];rfl
 rw [e];rfl
include h
theorem Z8o:Tot (fun N=>Q37 N v p) (Qlv v p):=by
 refine Ar ?_;unfold Q37;refine Au (.of fun N=>Z5g N) ?_;rw [Qp]
 by_cases hk:Qun v p.Kind
 ·rw [Af hk]
  by_cases h8:p.Kind=15∧v=4
  ·rw [Af h8];exact Aw (fun _ => .ret (Z1u hk h8).symm) (fun g=>nomatch g)
  rw [Ae h8];refine Aw (fun g=>nomatch g) (fun _=>?_)
  haveI:Kd p.Kind:=⟨by have:=hk.2;omega,by have:=hk.2;omega⟩
  have hv:=hk.1;have no:¬ Qua v p->TotP (fun _=>some (2:Int)) (· = Qlv v p):=fun x => .ret (Qxh hk h8 x).symm;refine Au (.of fun N=>Z63 N hk.2) ?_;refine Aw (fun g=>?_) (fun g=>?_)
  ·have g:=Aa g
   have hp:¬ Qb9 v p.Kind:=fun x=>by unfold Qb9 at x;omega
   refine Au (Qi5 _ _) ?_;refine Aw (fun g1=>no fun x=>by have:=(x.2 hp).1;rw [bN g1] at this;cases this) (fun g1=>?_);refine At (Q25 p (Z7t p) h.l) (fun b hb=>?_);refine Aw (fun g2=>no fun x=>by rw [hb.2 (x.2 hp).2] at g2;cases g2) (fun g2=>?_);refine Au (Q9u h p.Kind) (.ret ?_);rw [Qm2 hk h8 ⟨fun x=>absurd x hp,fun _=>⟨bP g1,hb.1 (bP g2)⟩⟩]
  have g:=Ac g
  have hp:Qb9 v p.Kind:=by unfold Qb9;have:=hk.2;omega
  refine At (Q25 p (Z6k p) h.l) (fun b hb=>?_);refine Aw (fun g2=>no fun x=>by rw [hb.2 (x.1 hp)] at g2;cases g2) (fun g2=>?_);refine Au (Q9u h p.Kind) (.ret ?_);rw [Qm2 hk h8 ⟨fun _=>hb.1 (bP g2),fun x=>absurd hp x⟩]
 rw [Ae hk];exact Aw (fun _ => .ret (Qrp hk).symm) (fun g=>nomatch g)
theorem Qsd (N:Nat) (k:Int):Z1 N v k=some (decide (Qb9 v k)):=by
 unfold Z1;rw [Q9,Q9,Q9,Q9]
 by_cases h1:k=12<;>by_cases h2:k=13<;>by_cases h3:k=14<;>by_cases h4:v=4<;>simp [h1,h2,h3,h4,Qb9]<;>omega
theorem Z5n:Tot (fun N=>Vq N v p) (Qlv v p):=by
 refine Ar ?_;unfold Vq;refine Au (.of fun N=>Qek N v) ?_;refine Aw (fun g => .ret (Qrp fun x=>Ac (bN g) x.1).symm) (fun gv=>?_);have gv:=Aa (bP gv);rw [Qf,Qx];refine Aw (fun g => .ret (Qrp fun x=>by have:=Aa g;have:=x.2;omega).symm) (fun g1=>?_);refine Aw (fun g => .ret (Qrp fun x=>by have:=Aa g;have:=x.2;omega).symm) (fun g2=>?_);have g1:=Ac g1;have g2:=Ac g2;have hk:Qun v p.Kind:=⟨gv,by omega,by omega⟩
 haveI:Kd p.Kind:=⟨by omega,by omega⟩
 have main:¬ (p.Kind=15∧v=4)->TotP (fun N=>(Z1 N v p.Kind).bind fun v37=>cond (!v37)
   ((Qk N p (Z7t p)).bind fun v40=>cond (!v40) (some (2:Int)) ((Z1 N v p.Kind).bind fun v43=>cond (!v43) ((Qy N p.Kind p.Code).bind fun v46=>cond (!v46) (some 2) ((Q5 N v p.Kind p.Props).bind fun v49=>some v49)) ((Q5 N v p.Kind p.Props).bind fun v51=>some v51)))
   ((Qk N p (Z6k p)).bind fun v53=>cond (!v53) (some (2:Int)) ((Z1 N v p.Kind).bind fun v56=>cond (!v56) ((Qy N p.Kind p.Code).bind fun v59=>cond (!v59) (some 2) ((Q5 N v p.Kind p.Props).bind fun v62=>some v62)) ((Q5 N v p.Kind p.Props).bind fun v64=>some v64)))) (· = Qlv v p):=fun h8=>by
  have no:¬ Qua v p->TotP (fun _=>some (2:Int)) (· = Qlv v p):=fun x => .ret (Qxh hk h8 x).symm;refine Au (.of fun N=>Qsd h N p.Kind) ?_;refine Aw (fun g=>?_) (fun g=>?_)
  ·have hp:=Ac (bN g);refine At (Jt p (Z7t p) h.l) (fun b hb=>?_);refine Aw (fun g2=>no fun x=>by rw [hb.2 (x.2 hp).2] at g2;cases g2) (fun g2=>?_);refine Au (.of fun N=>Qsd h N p.Kind) ?_;refine Aw (fun _=>?_) (fun g=>absurd (Aa (bP g)) hp);refine Au (Qia _ _) ?_;refine Aw (fun g1=>no fun x=>by have:=(x.2 hp).1;rw [bN g1] at this;cases this) (fun g1=>?_);refine Au (Q7c h (fun x=>absurd x (by unfold Qb9 at hp;omega))) (.ret ?_);rw [Qm2 hk h8 ⟨fun x=>absurd x hp,fun _=>⟨bP g1,hb.1 (bP g2)⟩⟩]
  have hp:=Aa (bP g);refine At (Jt p (Z6k p) h.l) (fun b hb=>?_);refine Aw (fun g2=>no fun x=>by rw [hb.2 (x.1 hp)] at g2;cases g2) (fun g2=>?_);have he:=hb.1 (bP g2);refine Au (.of fun N=>Qsd h N p.Kind) ?_;refine Aw (fun g=>absurd hp (Ac (bN g))) (fun _=>?_);refine Au (Q7c h (fun _=>by rw [he];rfl)) (.ret ?_);rw [Qm2 hk h8 ⟨fun _=>he,fun x=>absurd hp x⟩]
 rw [Q9,Q9];refine Aw (fun g5=>?_) (fun g5=>main fun x=>Ac g5 x.1);refine Aw (fun g4 => .ret (Z1u hk ⟨Aa g5,Aa g4⟩).symm) (fun g4=>main fun x=>Ac g4 x.2)
noncomputable def Z4e (v:Int) (p:Q1):List UInt8×Int:=if Qlv v p=0 then (Qu6 p.Kind p.Code p.Props,0) else ([],Qlv v p)
theorem Z0l (h0:Qlv v p=0):Qun v p.Kind∧Qua v p∧Q83 p.Kind [] p.Props=0∧(0≤p.Code∧p.Code<256)∧¬ (p.Kind=15∧v=4):=by
 unfold Qlv at h0;split at h0
 ·rename_i hk;split at h0
  ·exact absurd h0 (by decide)
  split at h0
  ·rename_i h8 hok;refine ⟨hk,hok,h0,?_,h8⟩
   by_cases hp:Qb9 v p.Kind
   ·have e:p.Code=(Z6k p).Code:=congrArg Q1.Code (hok.1 hp);rw [e];exact ⟨Int.le_refl _,(by decide:(0:Int)<256)⟩
   exact Qpl h (hok.2 hp).1
  exact absurd h0 (by decide)
 exact absurd h0 (by decide)
theorem Z9u:Tot (fun N=>Q2u N v p) (Z4e v p):=by
 refine Ar ?_;unfold Q2u Z4e;refine Au (Z8o h) ?_;rw [Qp];refine Aw (fun g => .ret (by rw [Ae (Aa g)])) (fun g=>?_);have h0:Qlv v p=0:=Decidable.byContradiction fun x=>Ac g x;obtain ⟨hk,ok,hl0,hc,h8⟩:=Z0l h h0;rw [Af h0]
 haveI:Kd p.Kind:=⟨by have:=hk.2;omega,by have:=hk.2;omega⟩
 have hb1:=Xr 1 p.Code.toNat;have hw:=Qdl (k:=p.Kind) h.props.len;refine Au (v:=Qu6 p.Kind p.Code p.Props) (Ar ?_) (.ret rfl);unfold Q6l Qu6;refine Au (Q9p _ h.props.len h.props.txt) ?_;rw [Qf,Qx,Qp,Qx,Qx,Q3];refine Aw (fun g=>absurd (Aa g) (by omega)) (fun _=>?_);refine Aw (fun g=>absurd (Aa g) (by omega)) (fun _=>?_);refine Aw (fun g=>absurd ((Z0o _).trans hl0) (Aa g)) (fun _=>?_);refine Au (Q17 p.Code (by omega) 1 (by omega)) ?_;refine Aw (fun g2=>?_) (fun g2=>?_)
 ·have g2:=Aa g2
  have g2:p.Props ≠ []:=fun x=>by rw [x] at g2;exact absurd g2 (by decide)
  rw [Ae (fun x=>g2 x.2),Ae g2];exact Ax (by rw [Lm];omega) (.ret rfl)
 have g2:p.Props = []:=Mh.1 (by have:=Ac g2;omega);refine Aw (fun g3 => .ret ?_) (fun g3 => .ret ?_)
 ·have g3:=Aa g3;rw [Ae (fun x=>by omega),Af g2,Lu]
 have g3:=Ac g3;rw [Af ⟨by omega,g2⟩]
theorem Z98:Tot (fun N=>Gu N v p) (Z4e v p):=by
 refine Ar ?_;unfold Gu Z4e;refine Au (Z5n h) ?_;rw [Qp];refine Aw (fun g => .ret (by rw [Ae (Aa g)])) (fun g=>?_);have h0:Qlv v p=0:=Decidable.byContradiction fun x=>Ac g x;obtain ⟨hk,ok,hl0,hc,h8⟩:=Z0l h h0;rw [Af h0]
 haveI:Kd p.Kind:=⟨by have:=hk.2;omega,by have:=hk.2;omega⟩
 refine Au (.of fun N=>Qsd h N p.Kind) ?_;refine Aw (fun g => .ret ?_) (fun g=>?_)
 ·have e:=ok.1 (Aa g);have e1:p.Code=0:=congrArg Q1.Code e;have e2:p.Props = []:=congrArg Q1.Props e;unfold Qu6;rw [Af ⟨e1,e2⟩,h0]
 refine Au (v:=Qu6 p.Kind p.Code p.Props) (Ar ?_) (.ret rfl);unfold Q1o;rw [Qf,Qx];refine Aw (fun g=>absurd (Aa g) (by omega)) (fun _=>?_);refine Aw (fun g=>absurd (Aa g) (by omega)) (fun _=>?_);refine Au (Qg0 _ h.props.len h.props.txt) ?_;rw [hl0];refine Aw (fun g=>nomatch g) (fun _=>?_);exact Au (Z0w h (.inr rfl) hc (fun x=>absurd x (by decide))) (.ret rfl)
end
end
end Go.Av
namespace Go.Av
noncomputable section
def Z8q:Y5:=⟨[],[],0,false,[]⟩
def Qy8 (p:Q1):Q1:=cond (decide (p.Kind=2)) ⟨p.Kind,false,false,0,0,[],[],false,0,[],false,[],false,[],false,(⟨[],[],0,false,[]⟩:Y5),p.Session,p.Code,[],[],p.Props⟩
 ⟨p.Kind,false,false,0,0,[],[],p.Clean,p.KeepAlive,p.Client,p.HasUser,cond p.HasUser p.User [],p.HasPass,cond p.HasPass p.Pass [],p.HasWill,cond p.HasWill p.Will Z8q,false,0,[],[],p.Props⟩
def Qy4 (v:Int) (p:Q1):Prop:=(v=4->p.Props = []∧p.Will.Props = [])∧(p.Kind=2->(v=4->0≤p.Code∧p.Code≤5)∧(v≠4->Qqu 2 p.Code=true)∧(p.Session=true->p.Code=0)) ∧
 (p.Kind≠2->(v=4->(p.Client = []->p.Clean=true)∧(p.HasPass=true->p.HasUser=true))∧(0≤p.KeepAlive∧p.KeepAlive<65536)∧0≤p.Will.QoS∧p.Will.QoS≤2)
def Z4d (v:Int) (p:Q1):Prop:=(v=4∨v=5)∧(p.Kind=1∨p.Kind=2)∧p=Qy8 p∧Qy4 v p
open Classical in
noncomputable def Qty (v:Int) (p:Q1):Int:=if Z4d v p then (if (Vf p.Client&&Vf p.User)=false then 6 else if (p.HasWill && !(Q0u p.Will.Topic))=true then 10 else if Q83 p.Kind [] p.Props≠0 then Q83 p.Kind [] p.Props else Q83 16 [] p.Will.Props) else 2
theorem Qio {v:Int} {p:Q1} (h:¬ Z4d v p):TotP (fun _=>some (2:Int)) (· = Qty v p) := .ret (by unfold Qty;rw [Ae h])
section
variable {v:Int} {p:Q1} (h:Qdi p)
include h
theorem Z4x:TotP (fun N=>Q3b N p) (fun b=>b=true↔p=Qy8 p):=by
 have hs:∀ q:Q1,Qy8 p=q->TotP (fun N=>(Z5 N p q).bind fun v=>some v) (fun b=>b=true↔p=Qy8 p):=fun q e=>by
  rw [e];exact At (Q25 p q h.l) (fun b hb => .ret hb)
 unfold Q3b;rw [Q9];refine Aw (fun g=>hs _ (by unfold Qy8;rw [g];rfl)) (fun g=>?_);refine Aw (fun g1=>?_) (fun g1=>?_)
 all_goals refine Aw (fun g2=>?_) (fun g2=>?_)
 all_goals refine Aw (fun g3=>hs _ (by unfold Qy8;rw [g];simp only [g1,g2,g3,Ai,Ah]<;>rfl)) (fun g3=>hs _ (by unfold Qy8;rw [g];simp only [g1,g2,g3,Ai,Ah]<;>rfl))
theorem Z8h (N:Nat):V5 N v p=some (Qy8 p):=by
 unfold V5 Qy8;rw [Q9];cases decide (p.Kind=2)<;>cases p.HasUser<;>cases p.HasPass<;>cases p.HasWill<;>rfl
theorem Z1x:TotP (fun N=>Q2q N v p) (fun b=>b=true↔Qy4 v p):=by
 have hp:=h.props.len;have hw:=h.wprops.len;have e0:∀ l:List Q6,l = []↔l.length=0:=fun l=>Mh.symm
 have kk:TotP (fun _=>cond (decide (p.KeepAlive≥0)) (cond (decide (p.KeepAlive<65536)) (cond (decide (p.Will.QoS≥0)) (some (decide (p.Will.QoS≤2))) (some false)) (some false)) (some false)) (fun b=>b=true↔((0≤p.KeepAlive∧p.KeepAlive<65536)∧0≤p.Will.QoS∧p.Will.QoS≤2)):=by
  repeat' first
   | refine Aw (fun g=>?_) (fun g=>?_)
   | refine TotP.ret ?_
  all_goals simp only [Ag,An,reduceCtorEq,false_iff] at *
  all_goals omega
 have mono:∀ {f:Nat->Option Bool} {A B:Prop},TotP f (fun b=>b=true↔A)->(A↔B)->TotP f (fun b=>b=true↔B):=fun a b=>a.mono fun _ x=>x.trans b;have no:¬ Qy4 v p->TotP (fun _=>some false) (fun b=>b=true↔Qy4 v p):=fun x => .ret ⟨fun y=>(nomatch y),fun y=>absurd y x⟩;unfold Q2q;simp only [Q9,Qx,Xv,X2,Qf,Gz,Q3];rw [w64 _ (by omega)];refine Aw (fun g4=>?_) (fun g4=>?_)
 ·have g4:=Aa g4;refine Aw (fun g=>no fun x=>?_) (fun g=>?_)
  ·have g:=Aa g;have:=x.1 g4;rw [this.1,this.2] at g;exact absurd g (by decide)
  have g:=Ac g;have z1:p.Props = []:=(e0 _).2 (by omega);have z2:p.Will.Props = []:=(e0 _).2 (by omega);refine Aw (fun gk=>?_) (fun gk=>?_)
  ·have gk:=Aa gk;refine At (V:=fun _=>True) (Qv1 _ _) (fun _ _=>?_);refine Au (v:=decide (0≤p.Code∧p.Code≤5)) (.of fun N=>?_) ?_
   ·unfold Q5q;rw [X2,X2,Bg];cases decide (0≤p.Code)<;>rfl
   refine Aw (fun g1=>?_) (fun g1=>no fun x=>Ac g1 ((x.2.1 gk).1 g4));have g1:=Aa g1;refine Aw (fun g2 => .ret ⟨fun _=>⟨fun _=>⟨z1,z2⟩,fun _=>⟨fun _=>g1,fun x=>absurd g4 x,fun _=>Aa g2⟩,fun x=>absurd gk x⟩,fun _=>rfl⟩) (fun g2 => .ret ⟨fun y=>⟨fun _=>⟨z1,z2⟩,fun _=>⟨fun _=>g1,fun x=>absurd g4 x,fun x=>by rw [x] at y;cases y⟩,fun x=>absurd gk x⟩,fun x=>?_⟩)
   cases hs:p.Session with
   | false=>rfl
   | true=>exact absurd ((x.2.1 gk).2.2 hs) (Ac g2)
  have gk:=Ac gk;have kr:((p.Client = []->p.Clean=true)∧(p.HasPass=true->p.HasUser=true))->(((0≤p.KeepAlive∧p.KeepAlive<65536)∧0≤p.Will.QoS∧p.Will.QoS≤2)↔Qy4 v p):=fun a=>⟨fun b=>⟨fun _=>⟨z1,z2⟩,fun x=>absurd x gk,fun _=>⟨fun _=>a,b⟩⟩,fun b=>(b.2.2 gk).2⟩
  have pas:(p.Client = []->p.Clean=true)->TotP (fun _=>cond p.HasPass (cond (!p.HasUser) (some false) (cond (decide (p.KeepAlive≥0)) (cond (decide (p.KeepAlive<65536)) (cond (decide (p.Will.QoS≥0)) (some (decide (p.Will.QoS≤2))) (some false)) (some false)) (some false)))
    (cond (decide (p.KeepAlive≥0)) (cond (decide (p.KeepAlive<65536)) (cond (decide (p.Will.QoS≥0)) (some (decide (p.Will.QoS≤2))) (some false)) (some false)) (some false))) (fun b=>b=true↔Qy4 v p):=fun a=>by
   refine Aw (fun g1=>?_) (fun g1=>mono kk (kr ⟨a,fun x=>by rw [g1] at x;cases x⟩));refine Aw (fun g2=>no fun x=>?_) (fun g2=>mono kk (kr ⟨a,fun _=>bP g2⟩));have:=((x.2.2 gk).1 g4).2 g1;rw [bN g2] at this;cases this
  refine Aw (fun g1=>?_) (fun g1=>pas fun x=>absurd x (Ac g1));refine Aw (fun g2=>no fun x=>?_) (fun g2=>pas fun _=>bP g2);have:=((x.2.2 gk).1 g4).1 (Aa g1);rw [bN g2] at this;cases this
 have g4:=Ac g4;refine Aw (fun gk=>?_) (fun gk=>?_)
 ·have gk:=Aa gk;rw [gk];refine Au (Qi5 2 p.Code) ?_;refine Aw (fun g1=>?_) (fun g1=>no fun x=>by have:=(x.2.1 gk).2.1 g4;rw [g1] at this;cases this);refine Aw (fun g2 => .ret ⟨fun _=>⟨fun x=>absurd x g4,fun _=>⟨fun x=>absurd x g4,fun _=>g1,fun _=>Aa g2⟩,fun x=>absurd gk x⟩,fun _=>rfl⟩) (fun g2 => .ret ⟨fun y=>⟨fun x=>absurd x g4,fun _=>⟨fun x=>absurd x g4,fun _=>g1,fun x=>by rw [x] at y;cases y⟩,fun x=>absurd gk x⟩,fun x=>?_⟩)
  cases hs:p.Session with
  | false=>rfl
  | true=>exact absurd ((x.2.1 gk).2.2 hs) (Ac g2)
 have gk:=Ac gk;exact mono kk ⟨fun b=>⟨fun x=>absurd x g4,fun x=>absurd x gk,fun _=>⟨fun x=>absurd x g4,b⟩⟩,fun b=>(b.2.2 gk).2⟩
end
end
end Go.Av
namespace Go.Av
noncomputable section
structure GP (d:Bool) (q i:Int) (t pl:List UInt8):Prop where
 hq:q=0∨q=1∨q=2
 dup:q=0->d=false
 id0:q=0->i=0
 id1:q≠0->1≤i∧i≤65535
 nm:Q0u t=true
 tl:t.length≤2000
 hpl:pl.length≤2000
section
variable {d r:Bool} {q i:Int} {t pl:List UInt8} (g:GP d q i t pl) {v:Int}
include g
end
end
end Go.Av
namespace Go.Av
noncomputable section
section
variable {R S T A:Type}
theorem TotP.succ {f g:Nat->Option R} {Q:R->Prop} (e:∀ N,f (N+1)=g N) (h:TotP g Q):TotP f Q:=by
 obtain ⟨r,hr,N0,hN⟩:=h;refine ⟨r,hr,N0+1,fun N h=>?_⟩;obtain ⟨M,rfl⟩:∃ M,N=M+1:=⟨N - 1,by omega⟩;rw [e];exact hN M (by omega)
end
theorem szs_app (l:List Q2) (v:Q2):Q2.szs (l ++ [v])=Q2.szs l+v.sz:=by
 induction l with
 | nil=>simp [Q2.szs]
 | cons w l ih=>simp only [Bb,Q2.szs,ih];omega
end
end Go.Av
namespace Go.Av
noncomputable section
section
variable {T:Type}
end
structure Z13 (p:Q1):Prop where
 codes:p.Codes.length≤100000
 filters:p.Filters.length≤100000
 props:p.Props.length≤100000
 wprops:p.Will.Props.length≤100000
theorem Qqw (N:Nat) (p:Q1) (h:Z13 p):W2 N p=some p:=by
 have h1:=h.codes;have h2:=h.filters;have h3:=h.props;have h4:=h.wprops
 have nb:∀ {T:Type} (c:T->List PV) (l:List T) (k:Nat),l.length≤100000->k≤100->Nat.ble ((0+(Q7 c l).length+4096) * k) 17592186044416=true:=fun c l k a b=>by
  rw [Q3,Lm]
  calc (0+l.length+4096) * k≤(0+100000+4096) * 100:=Nat.mul_le_mul (by omega) b
   _≤17592186044416:=by decide
 unfold W2;simp only [nb (cI .i64) p.Codes 8 h1 (by decide),nb Qa.cells p.Filters 40 h2 (by decide),nb Q6.cells p.Props 48 h3 (by decide),nb Q6.cells p.Will.Props 48 h4 (by decide),Mx,Ai];obtain ⟨a0,a1,a2,a3,a4,a5,a6,a7,a8,a9,a10,a11,a12,a13,a14,⟨w0,w1,w2,w3,w4⟩,a16,a17,c,f,q⟩:=p;cases c<;>cases f<;>cases q<;>cases w4<;>rfl
def Z5f:Qd:=⟨0,0,[],[],0,false,false,0,[],0,[],0,(⟨0,false,false,0,0,[],[],false,0,[],false,[],false,[],false,(⟨[],[],0,false,[]⟩:Y5),false,0,[],[],[]⟩:Q1),(⟨0,(⟨false,0,false,false,false,0⟩:Q26),0,0,0,false,0,0,0,[],[]⟩:Qbr),(⟨0,0,[],[]⟩:Y2)⟩
theorem Qcp (e:Qd) (hp:e.Props.length≤100000) (hh:e.Hops.length≤100000) (hk:Qdi e.Packet) (hv:e.Frame.Values = []):Tot (fun N=>Q15 N e) e:=by
 refine ⟨1,fun N hN=>?_⟩;obtain ⟨M,rfl⟩:∃ M,N=M+1:=⟨N - 1,by omega⟩;show Q15 (M+1) e=_;unfold Q15;rw [Qca _ _ hp,Qqr _ _ hh,Qq9 _ _ hk];simp only [Ll];obtain ⟨a0,a1,a2,a3,a4,a5,a6,a7,a8,a9,a10,a11,a12,a13,⟨b0,b1,b2,b3⟩⟩:=e
 simp only at hv
 subst hv;rfl
end
end Go.Av
namespace Go.Av
noncomputable section
section
variable {d r:Bool} {q i:Int} {t pl:List UInt8} (g:GP d q i t pl) {p:Int} (hp:p=1∨p=2)
include g
theorem GP.ack:decide (i≠0)=decide (q≠0):=by
 by_cases h:q=0
 ·rw [h,g.id0 h]
 have:=g.id1 h;rw [Ad h,Ad (by omega)]
include hp
end
section
variable {d r:Bool} {q i:Int} {t pl:List UInt8} (g:GP d q i t pl) {v:Int} (hv:v=4∨v=5)
include g hv
end
end
end Go.Av
namespace Go.Av
noncomputable section
theorem Qwe (n:Nat) (h:n≤268435455):TotP (fun N=>Q62 N (n:Int)) (fun v=>1≤v):=by
 unfold Q62 Q4n;rw [Xv,X2,Ad (p:=(n:Int)≥0) (by omega),Ad (by omega)];refine Au (v:=true) (.of fun _=>rfl) ?_;refine Aw (fun g=>nomatch g) (fun _=>?_);refine Qbi (L:=fun N m (q:Int×Int)=>Ge N m q.1 q.2) (fun q=>0≤q.1∧q.1≤268435455∧1≤q.2∧q.2+q.1≤268435456) (fun q=>q.1.toNat) ?_ ((n:Int),1) ⟨by omega,by omega,by omega,by omega⟩
 rintro ⟨s,l⟩ ⟨h1,h2,h3,h4⟩
 simp only at h1 h2 h3 h4
 show Stp _ _ _ (fun N m=>cond (Q4 .geq s 128) _ _);rw [Xv];refine AE (fun g=>?_) (fun _=>AA h3);have g:=Aa g
 have e1:wrap .i64 (s.tdiv 128)=s / 128:=by rw [Bh (by omega),w64 _ (by omega)]
 rw [e1,w64 _ (by omega)];exact AB (L:=fun N m (q:Int×Int)=>Ge N m q.1 q.2) (_,_) ⟨⟨by simp only;omega,by simp only;omega,by simp only;omega,by simp only;omega⟩,by simp only;omega⟩
section
variable {d r:Bool} {q i:Int} {t pl:List UInt8} (g:GP d q i t pl) {v:Int} (hv:v=4∨v=5)
include g
end
section
variable {d r:Bool} {q i:Int} {t pl:List UInt8} (g:GP d q i t pl) {p:Int} (hp:p=1∨p=2)
include g hp
end
end
end Go.Av
namespace Go.Av
noncomputable section
end
end Go.Av
namespace Go.Av
noncomputable section
def sh1 (e:Qd):Qd:=⟨e.Proto,e.Kind,[],[],0,false,false,0,[],0,[],0,e.Packet,(⟨0,(⟨false,0,false,false,false,0⟩:Q26),0,0,0,false,0,0,0,[],[]⟩:Qbr),(⟨0,0,[],[]⟩:Y2)⟩
def sh3 (e:Qd):Qd:=⟨e.Proto,e.Kind,[],[],0,false,false,0,[],0,e.Hops,0,(⟨0,false,false,0,0,[],[],false,0,[],false,[],false,[],false,(⟨[],[],0,false,[]⟩:Y5),false,0,[],[],[]⟩:Q1),e.Msg,(⟨0,0,[],[]⟩:Y2)⟩
def sh4 (e:Qd):Qd:=⟨e.Proto,e.Kind,[],[],0,false,false,0,[],0,[],0,(⟨0,false,false,0,0,[],[],false,0,[],false,[],false,[],false,(⟨[],[],0,false,[]⟩:Y5),false,0,[],[],[]⟩:Q1),(⟨0,(⟨false,0,false,false,false,0⟩:Q26),0,0,0,false,0,0,0,[],[]⟩:Qbr),e.Frame⟩
structure Oth (e:Qd) (c:Int):Prop where
 a:e.Proto=1∨e.Proto=2->(c=0->sh1 e=e)∧(sh1 e≠e->c=2)∧(e.Packet.Kind=0->c≠0)
 b:e.Proto=3->(c=0->sh3 e=e)∧(sh3 e≠e->c=2)
 d:e.Proto=4->(c=0->sh4 e=e)∧(sh4 e≠e->c=2)
 f:c=0->e.Proto=1∨e.Proto=2∨e.Proto=3∨e.Proto=4
def cq (e:Qd):Bool:=cond (decide (e.QoS=1)) true (decide (e.QoS=2))
structure Ck (e:Qd) (l:Yz) (t b r:Bool) (v c:Int):Prop where
 zero:c=0->r=true
 pub0:e.Kind=1->c=0->Q0u e.Topic=true∧v=0∧PubT e (cq e) t b∧(e.Payload.length:Int)≤l.MaxPacket
 pub1:e.Kind=1->r=true->Q0u e.Topic=true->v=0->PubT e (cq e) t b->(e.Payload.length:Int)≤l.MaxPacket->c=0
 pub2:e.Kind=1->r=true->Q0u e.Topic=true->¬ PubT e (cq e) t b->c=2
 oth:e.Kind=2->r=true->Oth e c
 no:c=0->e.Kind=1∨e.Kind=2
end
end Go.Av
namespace Go.Av
noncomputable section
def zPk:Q1:=⟨0,false,false,0,0,[],[],false,0,[],false,[],false,[],false,(⟨[],[],0,false,[]⟩:Y5),false,0,[],[],[]⟩
def zMk:Qbr:=⟨0,(⟨false,0,false,false,false,0⟩:Q26),0,0,0,false,0,0,0,[],[]⟩
def zFk:Y2:=⟨0,0,[],[]⟩
def Zuf (h:Q09):Bool:=decide (0≤h.Radius∧h.Radius≤3∧1≤h.Node.length∧h.Node.length≤32)
def Z9t (l:List Q09):Bool:=decide (l.length≤4)&&l.all Zuf
section
variable (l:List Q09) (hl:l.length≤30) (hn:∀ x∈l,x.Node.length≤300)
include hl hn
end
def Z27 (s:List UInt8):Bool:=decide (s.length=2)&&Q0u s
def Zuq (e:Qd):Bool:=decide (0≤e.Type'∧e.Type'≤2)&&((!(decide (e.Type'=2))||Z27 e.Topic)&&Z9t e.Hops)
open Classical in
open Classical in
end
end Go.Av
namespace Go.Av
noncomputable section
section
variable {B:Nat} {c:Q3c} (h:Cd B c) (hB:B≤1000) (k:c.m.Type'=12)
include h hB k
end
section
variable {m:Qbr} (h:OkM m) (k:m.Type'=12)
include h k
end
end
end Go.Av
namespace Go.Av
noncomputable section
end
end Go.Av
namespace Go.Av
noncomputable section
end
end Go.Av
namespace Go.Av
noncomputable section
theorem Z6z:Qdi zPk:=by
 constructor<;>first | exact Ln _ | decide | (intro x hx;cases hx) | (constructor<;>first | exact Ln _ | (intro x hx;cases hx))
def there (p:Int) (e:Qd) (d:Bool) (ty:Int):Qd:=⟨p,1,e.Topic,e.Payload,e.QoS,e.Retain,d,e.ID,[],ty,[],0,zPk,zMk,zFk⟩
theorem LE.there {e:Qd} (h:LE e) (p:Int) (d:Bool) (ty:Int):LE (there p e d ty):=
 ⟨h.topic,h.payload,⟨Ln _,fun x hx=>nomatch hx⟩,Z6z,⟨Ln _,(fun x hx=>nomatch hx),⟨Ln _,Ln _⟩⟩,⟨(fun x hx=>nomatch hx),(by show Q2.szs []<_;decide),(by show Q2.wgts []<_;decide)⟩⟩
theorem LE.szs {e:Qd} (h:LE e):Q2.szs e.Frame.Values<700000000:=Nat.lt_trans h.fb.sz (by decide)
open Classical in
end
end Go.Av
namespace Go.Av
noncomputable section
end
end Go.Av
namespace Go.Av
noncomputable section
section
variable (l:List Q09)
end
def snB (e:Qd):Bool:=cond (decide (e.Proto≠3)) (decide (e.Type'=0∧e.Hops.length=0)) (Zuq e)
open Classical in
section
variable {N:Nat} {e:Qd} {b:Bool} {v:Int} (hn:Qr N e.Topic=some (Q0u e.Topic)) (hs:Q11 N e=some (snB e)) (hb:Ys N e=some b) (hv:Yy N 3 e.Props=some v)
end
end
end Go.Av
namespace Go.Av
noncomputable section
open Classical in
end
end Go.Av
namespace Go.Av
noncomputable section
theorem TotP.and {R:Type} {f:Nat->Option R} {P Q:R->Prop} (h1:TotP f P) (h2:TotP f Q):TotP f (fun r=>P r∧Q r):=by
 obtain ⟨a,pa,N1,ha⟩:=h1;obtain ⟨b,qb,N2,hb⟩:=h2;have e:=(ha (max N1 N2) (by omega)).symm.trans (hb (max N1 N2) (by omega));cases e;exact ⟨a,⟨pa,qb⟩,N1,ha⟩
end
end Go.Av
namespace Go.Av
noncomputable section
structure ToR (r:Qd×Int):Prop where
 bad:r.2≠0->r.1=Z5f
 p:r.1.Props.length≤100
 pp:r.1.Packet.Props.length≤100
 pf:r.1.Packet.Filters.length≤100
 pc:r.1.Packet.Codes.length≤100
theorem ToR.zero (c:Int):ToR (Z5f,c):=⟨fun _=>rfl,Ln _,Ln _,Ln _,Ln _⟩
theorem Z5b:Qdi (⟨0,false,false,0,0,[],[],false,0,[],false,[],false,[],false,(⟨[],[],0,false,[]⟩:Y5),false,0,[],[],[]⟩:Q1):=by
 constructor<;>first | exact Ln _ | decide | (intro x hx;cases hx) | (constructor<;>first | exact Ln _ | (intro x hx;cases hx))
theorem Z20 (M:Nat):Q1b (M+200)=some true:=by kernel_rfl
section
variable (p q:Q1) (hq:TotP (fun N=>Qk N p q) (· = true))
include hq
variable (r:Qd×Int) (hr:ToR r)
include hr
end
end
end Go.Av
namespace Go.Av
noncomputable section
def zP:Q1:=⟨0,false,false,0,0,[],[],false,0,[],false,[],false,[],false,(⟨[],[],0,false,[]⟩:Y5),false,0,[],[],[]⟩
def zM:Qbr:=⟨0,(⟨false,0,false,false,false,0⟩:Q26),0,0,0,false,0,0,0,[],[]⟩
def zF:Y2:=⟨0,0,[],[]⟩
def zE:Qd:=⟨0,0,[],[],0,false,false,0,[],0,[],0,zP,zM,zF⟩
structure E4 (e:Qd):Prop where
 eq:e=⟨4,1,e.Topic,e.Payload,e.QoS,e.Retain,e.Dup,e.ID,[],0,[],e.Channel,zP,zM,zF⟩
 qos:0≤e.QoS∧e.QoS≤2
 id:0≤e.ID∧e.ID≤65535
 ch:0≤e.Channel∧e.Channel≤65535
theorem Qdn:Qy7 zP:=⟨Ln _,Ln _,Ln _,Ln _⟩
def vn (k n:Int):Q2:=⟨k,n,[],[]⟩
def vt (k:Int) (s:List UInt8):Q2:=⟨k,0,s,[]⟩
def vf (b:Bool):Q2:=vn 2 (if b then 1 else 0)
def vl (k:Int) (l:List Q2):Q2:=⟨k,0,[],l⟩
def vs (n:Int) (v:Q2):Q2:=vl 25 [vn 6 n,v]
def frE (e:Qd):Y2:=⟨0,e.Channel,[],[vs 20 (vl 22 [vn 5 0,vn 5 e.ID,vt 19 (Qbq e.ID.toNat 2),vn 5 0,vf (decide (e.QoS=0))]),
 vs 114 (vl 23 [vt 21 [120,45,113,111,115],vn 3 e.QoS,vt 21 [120,45,114,101,116,97,105,110],vf e.Retain,vt 21 [120,45,100,117,112],vf e.Dup]),
 vs 115 (vl 22 [vn 1 0,vn 1 0,vt 20 e.Topic]),vs 117 (vt 19 e.Payload)]⟩
end
end Go.Av
namespace Go.Av
noncomputable section
section
variable {T:Type} {l:List T}
end
def MsgR (f:Y2) (r:Qd×Bool):Prop:=r.2=true->E4 r.1∧Tot (fun N=>Q1y N r.1) 0∧frE r.1=f
theorem MsgR.no {f:Y2} {e:Qd}:MsgR f (e,false):=fun h=>nomatch h
inductive NoFl:Q2->Prop
 | mk (v:Q2) (h:v.Kind≠11∧v.Kind≠12) (hi:∀ x∈v.Items,NoFl x):NoFl v
end
end Go.Av
namespace Go.Av
noncomputable section
theorem E4.oks {e:Qd} (h:E4 e):Z3n e:=by
 rw [h.eq];exact ⟨Ln _,Ln _,Qdn,by show Q2.szs []<700000000;decide⟩
theorem LE.oks {e:Qd} (h:LE e):Z3n e:=by
 have h1:=ml2;have h2:e.Hops.length≤30:=h.dg.hops;have h3:=h.props.len;exact ⟨by omega,by omega,h.pk.l,Nat.lt_trans h.fb.sz (by decide)⟩
end
end Go.Av
