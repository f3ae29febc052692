/- Part of the proof of FrommqttBack: for every input the law returns true; no condition. -/
import Derived.Test.YteblaejaahpnaaaGreatDoorPlainb
import Derived.Test.YteblaejaahpnaaaGreatDoorOkX
set_option linter.all false
open Go.IntKind (wrap)
namespace Go.Av
noncomputable section
theorem Z4c {k:Int}:∀ {l pre:List Qb},Q6x k pre l=0→∀ p∈l,Qdl k p=0
 | [],_,_,p,hp=>nomatch hp
 | a::l,pre,h,p,hp=>by
  have e:Q6x k pre (a::l)=if Qdl k a≠0 then Qdl k a else if (Qfn pre a.ID && !(Qu5 k a.ID))=true then 9 else Q6x k (pre ++ [a]) l:=rfl;rw [e] at h
  by_cases h1:Qdl k a≠0
  ·rw [Af h1] at h;exact absurd h h1
  rw [Ae h1] at h;have h1:Qdl k a=0:=Decidable.byContradiction h1
  by_cases h2:(Qfn pre a.ID && !(Qu5 k a.ID))=true
  ·rw [Af h2] at h;exact absurd h (by decide)
  rw [Ae h2] at h
  rcases Ml.1 hp with rfl | hp
  ·exact h1
  exact Z4c h p hp
theorem Qlo {k:Int}:∀ {l:List Qb},(∀ p∈l,Qdl k p=0)→(Qjk l).length≤l.length * 140001
 | [],_=>Lm _
 | a::l,hm=>by
  obtain ⟨r,hr,hsh,hfit⟩:=Z4x (hm a Ns);have h1:=Qhn hfit;have h2:=Qlo fun p hp=>hm p (Nm _ hp);show (Qux a++Qjk l).length≤_;unfold Qux;rw [hsh,Le,Li,Li];omega
theorem Qdk {k:Int} {l:List Qb} (hl:l.length≤30):(Qhg k l).1.length≤4200100:=by
 unfold Qhg;split
 ·rename_i h;have:=Qlo (Z4c h)
  have h2:(Qjk l).length≤4200030:=by omega
  have:=Qpv (n:=(Qjk l).length) (by omega);simp only [Le];omega
 exact Lm _
section
variable {k:Int} [hk:Kd k]
theorem Z5u (l:List Qb) (hl:l.length≤30) (hp:∀ p∈l,p.Text.length≤maxLen):Tot (fun N=>Jo N k l) (Qhg k l):=by
 refine Ar ?_;unfold Jo Qhg;refine Au (Qdw l hl hp) ?_;rw [Qq];refine Aw (fun g => .ret (by rw [Ae (Aa g)])) (fun g=>?_);have h0:Q6x k [] l=0:=Decidable.byContradiction fun x=>Ac g x;rw [Af h0];have hb:=Qlo (Z4c h0);refine Au (Qxf l hl (Z4c h0)) ?_;refine Au (Qmq _ (by omega)) ?_;have:=Qpv (n:=(Qjk l).length) (by omega);exact Ax (by rw [Ln];dsimp only;omega) (.ret rfl)
theorem Qql {v:Int} (hv:v=4∨v=5) (l:List Qb) (hl:l.length≤30) (hp:∀ p∈l,p.Text.length≤maxLen):Tot (fun N=>Z0 N v k l) (if v=4 then [] else (Qhg k l).1):=by
 refine Ar ?_;unfold Z0;rw [Qa];refine Aw (fun g => .ret (by rw [Af (Aa g)])) (fun g=>?_);rw [Ae (Ac g)];exact Au (Z5u l hl hp) (.ret rfl)
end
theorem Qvz (c:Int) (h:0≤c∧c<256) : [UInt8.ofNat (wrap .u8 c).toNat]=Qb4 c.toNat 1:=by
 show _ = [UInt8.ofNat (c.toNat % 256)];rw [Qp8]
 congr 2
 omega
section
variable {p:Q1} (h:Qd0 p)
include h
theorem Qru {v:Int} (h0:Qrw v p=0):Qn1 v p∧Q6x p.Kind [] p.Props=0:=by
 unfold Qrw at h0;split at h0
 ·exact ⟨by assumption,h0⟩
 exact absurd h0 (by decide)
theorem Qof {k c:Int} (hc:Qqg k c=true):0≤c∧c<256:=by
 rw [Qvj] at hc;exact Qwl k c (Mu.1 hc)
theorem Z96 (v:Int):Tot (fun N=>Q6w N v p) (Z3p v p):=by
 refine Ar ?_;unfold Q6w Z3p;refine Au (Z7l h v) ?_;rw [Qq];refine Aw (fun g => .ret (by rw [Ae (Aa g)])) (fun g=>?_);have h0:Qrw v p=0:=Decidable.byContradiction fun x=>Ac g x;obtain ⟨ok,hl0⟩:=Qru h h0;rw [Af h0];have hc:=Qof h ok.2.2.2.1;have hid:=ok.2.2.1
 haveI:Kd p.Kind:=⟨by have:=ok.2.1;omega,by have:=ok.2.1;omega⟩
 have hb2:=Yv 2 p.ID.toNat;have hb1:=Yv 1 p.Code.toNat;have hw:=Qdk (k:=p.Kind) h.props.len;have hpb:Tot (fun N=>Va N p.Kind p.Props) (Qhg p.Kind p.Props):=Q9d _ h.props.len h.props.txt;refine Au (Q12 p.ID (by omega) 2 (by omega)) ?_;unfold Qq9;rw [Qq,Qq,Q4];refine Aw (fun g1=>?_) (fun g1=>?_)
 ·have g1:=Aa g1;rw [Ae (fun x=>g1 x.1)];refine Au (Q12 p.Code (by omega) 1 (by omega)) ?_;refine Ax (by rw [Ln];omega) ?_;refine Aw (fun g2=>?_) (fun g2=>?_)
  ·have g2:=Aa g2;rw [Ae (fun x=>g2 (by rw [x];rfl))];refine Au hpb ?_;exact Ax (by rw [Ln];simp only [Le];omega) (.ret (by rw [Lq]))
  have g2:p.Props = []:=Mi.1 (by have:¬ ¬ _:=Ac g2;omega);rw [Af g2,Lu];exact .ret rfl
 have g1:p.Code=0:=Decidable.byContradiction fun x=>Ac g1 x;refine Aw (fun g2=>?_) (fun g2=>?_)
 ·have g2:=Aa g2;have g2:p.Props ≠ []:=fun x=>g2 (by rw [x];rfl);rw [Ae (fun x=>g2 x.2),Ae g2];refine Au (Q12 p.Code (by omega) 1 (by omega)) ?_;refine Ax (by rw [Ln];omega) ?_;refine Au hpb ?_;exact Ax (by rw [Ln];simp only [Le];omega) (.ret (by rw [Lq]))
 have g2:p.Props = []:=Mi.1 (by have:¬ ¬ _:=Ac g2;omega);rw [Af ⟨g1,g2⟩,Lu];exact .ret rfl
theorem Z0p {v k c:Int} [Kd k] (hv:v=4∨v=5) (hc:0≤c∧c<256) (h4:v=4→c=0∧p.Props = []):Tot (fun N=>Vk N v k c p.Props) (Qq9 k c p.Props):=by
 refine Ar ?_;have hw:=Qdk (k:=k) h.props.len;unfold Vk Qq9;rw [Qa,Qq,Qy,Q4];refine Aw (fun g=>?_) (fun g=>?_)
 ·have g:=Aa g;subst g;have ht:Tot (fun N=>Z0 N 5 k p.Props) (Qhg k p.Props).1:=Qql (.inr rfl) _ h.props.len h.props.txt;refine Aw (fun g1=>?_) (fun g1=>?_)
  ·have g1:=Aa g1;rw [Ae (fun x=>g1 x.1),← Qvz c hc];refine Aw (fun g2=>?_) (fun g2=>?_)
   ·have g2:=Aa g2;rw [Ae (fun x=>by rw [x] at g2;exact absurd g2 (by decide))];refine Au ht ?_;exact Ax (by rw [Ln];simp only [Lw];omega) (.ret rfl)
   have g2:p.Props = []:=Mi.1 (by have:=Ac g2;omega);rw [Af g2];exact .ret rfl
  have g1:c=0:=Decidable.byContradiction fun x=>Ac g1 x;refine Aw (fun g2=>?_) (fun g2=>?_)
  ·have g2:=Aa g2
   have g2:p.Props ≠ []:=fun x=>by rw [x] at g2;exact absurd g2 (by decide)
   rw [Ae (fun x=>g2 x.2),Ae g2,← Qvz c hc];refine Au ht ?_;exact Ax (by rw [Ln];simp only [Lw];omega) (.ret rfl)
  have g2:p.Props = []:=Mi.1 (by have:=Ac g2;omega);rw [Af ⟨g1,g2⟩];exact .ret rfl
 have:v=4:=hv.resolve_right (Ac g);rw [Af (h4 this)];exact .ret rfl
theorem Qlr {k c:Int}:(Qq9 k c p.Props).length≤4200200:=by
 have hw:=Qdk (k:=k) h.props.len;have hb:=Yv 1 c.toNat;unfold Qq9
 repeat' split
 ·exact Lm _
 ·rw [Lu];omega
 rw [Le];omega
theorem Z7x (v:Int):Tot (fun N=>Gh N v p) (Z3p v p):=by
 refine Ar ?_;unfold Gh Z3p;refine Au (Z6w h v) ?_;rw [Qq];refine Aw (fun g => .ret (by rw [Ae (Aa g)])) (fun g=>?_);have h0:Qrw v p=0:=Decidable.byContradiction fun x=>Ac g x;obtain ⟨ok,hl0⟩:=Qru h h0;rw [Af h0];have hc:=Qof h ok.2.2.2.1;have hid:=ok.2.2.1
 haveI:Kd p.Kind:=⟨by have:=ok.2.1;omega,by have:=ok.2.1;omega⟩
 have hb2:=Yv 2 p.ID.toNat;have hs:=Qlr h (k:=p.Kind) (c:=p.Code);refine Au (Q30 p.ID (by omega) 2 (by omega)) ?_;refine Au (Z0p h ok.1 hc ok.2.2.2.2.1) ?_;exact Ax (by rw [Ln];omega) (.ret rfl)
end
end
end Go.Av
namespace Go.Av
noncomputable section
def Z79 (p:Q1):Q1:=⟨p.Kind,false,false,0,0,[],[],false,0,[],false,[],false,[],false,(⟨[],[],0,false,[]⟩:Xn),false,p.Code,[],[],p.Props⟩
def Z6v (p:Q1):Q1:=⟨p.Kind,false,false,0,0,[],[],false,0,[],false,[],false,[],false,(⟨[],[],0,false,[]⟩:Xn),false,0,[],[],[]⟩
def Qao (v k:Int):Prop:=k=12∨k=13∨(k=14∧v=4)
instance (v k:Int):Decidable (Qao v k):=by unfold Qao;infer_instance
def Qu6 (v k:Int):Prop:=(v=4∨v=5)∧12≤k∧k≤15
instance (v k:Int):Decidable (Qu6 v k):=by unfold Qu6;infer_instance
def Qtd (v:Int) (p:Q1):Prop:=(Qao v p.Kind→p=Z6v p)∧(¬ Qao v p.Kind→Qqg p.Kind p.Code=true∧p=Z79 p)
open Classical in
noncomputable def Ql3 (v:Int) (p:Q1):Int:=if Qu6 v p.Kind then (if p.Kind=15∧v=4 then 8 else if Qtd v p then Q6x p.Kind [] p.Props else 2) else 2
section
variable {v:Int} {p:Q1} (h:Qd0 p)
theorem Qs0 (h1:¬ Qu6 v p.Kind):Ql3 v p=2:=by unfold Ql3;rw [Ae h1]
theorem Z06 (h1:Qu6 v p.Kind) (h2:p.Kind=15∧v=4):Ql3 v p=8:=by unfold Ql3;rw [Af h1,Af h2]
theorem Qvn (h1:Qu6 v p.Kind) (h2:¬ (p.Kind=15∧v=4)) (h3:¬ Qtd v p):Ql3 v p=2:=by unfold Ql3;rw [Af h1,Ae h2,Ae h3]
theorem Qlq (h1:Qu6 v p.Kind) (h2:¬ (p.Kind=15∧v=4)) (h3:Qtd v p):Ql3 v p=Q6x p.Kind [] p.Props:=by unfold Ql3;rw [Af h1,Ae h2,Af h3]
theorem Z4p (N:Nat) (h1:12≤p.Kind∧p.Kind≤15):Gs N v p.Kind=some (decide ((p.Kind=14∨p.Kind=15)∧v=5),true):=by
 have:p.Kind=12∨p.Kind=13∨p.Kind=14∨p.Kind=15:=by omega
 unfold Gs Uc G9;rw [Qa]
 rcases this with e | e | e | e<;>rw [e]<;>simp
theorem Z6g (N:Nat):Q32 N v p.Kind=some (if Qu6 v p.Kind then (if p.Kind=15∧v=4 then 8 else 0) else 2):=by
 unfold Q32
 by_cases h1:12≤p.Kind∧p.Kind≤15
 ·rw [Z4p N h1];show cond (Q3 .neq v 4) _ _=_;rw [Qq,Qq,Qa,Qa]
  by_cases h4:v=4<;>by_cases h5:v=5<;>by_cases hk:p.Kind=15<;>simp [h4,h5,hk,Qu6]<;>omega
 rw [Ae (fun x=>h1 x.2)]
 have e:Gs N v p.Kind=some (false,false):=by
  unfold Gs
  have f:∀ j:Int,p.Kind≠j→((p.Kind:Int) == j)=false:=fun j x=>by simp;exact x
  rw [f 12 (by omega),f 13 (by omega),f 14 (by omega),f 15 (by omega)];rfl
 rw [e];rfl
include h
theorem Z90:Tot (fun N=>Q2x N v p) (Ql3 v p):=by
 refine Ar ?_;unfold Q2x;refine Au (.of fun N=>Z6g N) ?_;rw [Qq]
 by_cases hk:Qu6 v p.Kind
 ·rw [Af hk]
  by_cases h8:p.Kind=15∧v=4
  ·rw [Af h8];exact Aw (fun _ => .ret (Z06 hk h8).symm) (fun g=>nomatch g)
  rw [Ae h8];refine Aw (fun g=>nomatch g) (fun _=>?_)
  haveI:Kd p.Kind:=⟨by have:=hk.2;omega,by have:=hk.2;omega⟩
  have hv:=hk.1;have no:¬ Qtd v p→TotP (fun _=>some (2:Int)) (· = Ql3 v p):=fun x => .ret (Qvn hk h8 x).symm;refine Au (.of fun N=>Z4p N hk.2) ?_;refine Aw (fun g=>?_) (fun g=>?_)
  ·have g:=Aa g
   have hp:¬ Qao v p.Kind:=fun x=>by unfold Qao at x;omega
   refine Au (Qhj _ _) ?_;refine Aw (fun g1=>no fun x=>by have:=(x.2 hp).1;rw [bN g1] at this;cases this) (fun g1=>?_);refine At (Q1p p (Z79 p) h.l) (fun b hb=>?_);refine Aw (fun g2=>no fun x=>by rw [hb.2 (x.2 hp).2] at g2;cases g2) (fun g2=>?_);refine Au (Q91 h p.Kind) (.ret ?_);rw [Qlq hk h8 ⟨fun x=>absurd x hp,fun _=>⟨bP g1,hb.1 (bP g2)⟩⟩]
  have g:=Ac g
  have hp:Qao v p.Kind:=by unfold Qao;have:=hk.2;omega
  refine At (Q1p p (Z6v p) h.l) (fun b hb=>?_);refine Aw (fun g2=>no fun x=>by rw [hb.2 (x.1 hp)] at g2;cases g2) (fun g2=>?_);refine Au (Q91 h p.Kind) (.ret ?_);rw [Qlq hk h8 ⟨fun _=>hb.1 (bP g2),fun x=>absurd hp x⟩]
 rw [Ae hk];exact Aw (fun _ => .ret (Qs0 hk).symm) (fun g=>nomatch g)
theorem Qsb (N:Nat) (k:Int):Z3 N v k=some (decide (Qao v k)):=by
 unfold Z3;rw [Qa,Qa,Qa,Qa]
 by_cases h1:k=12<;>by_cases h2:k=13<;>by_cases h3:k=14<;>by_cases h4:v=4<;>simp [h1,h2,h3,h4,Qao]<;>omega
theorem Z66:Tot (fun N=>Vz N v p) (Ql3 v p):=by
 refine Ar ?_;unfold Vz;refine Au (.of fun N=>Qed N v) ?_;refine Aw (fun g => .ret (Qs0 fun x=>Ac (bN g) x.1).symm) (fun gv=>?_);have gv:=Aa (bP gv);rw [Qd,Qy];refine Aw (fun g => .ret (Qs0 fun x=>by have:=Aa g;have:=x.2;omega).symm) (fun g1=>?_);refine Aw (fun g => .ret (Qs0 fun x=>by have:=Aa g;have:=x.2;omega).symm) (fun g2=>?_);have g1:=Ac g1;have g2:=Ac g2;have hk:Qu6 v p.Kind:=⟨gv,by omega,by omega⟩
 haveI:Kd p.Kind:=⟨by omega,by omega⟩
 have main:¬ (p.Kind=15∧v=4)→TotP (fun N=>(Z3 N v p.Kind).bind fun v37=>cond (!v37)
   ((Qi N p (Z79 p)).bind fun v40=>cond (!v40) (some (2:Int)) ((Z3 N v p.Kind).bind fun v43=>cond (!v43) ((Z1 N p.Kind p.Code).bind fun v46=>cond (!v46) (some 2) ((Q5 N v p.Kind p.Props).bind fun v49=>some v49)) ((Q5 N v p.Kind p.Props).bind fun v51=>some v51)))
   ((Qi N p (Z6v p)).bind fun v53=>cond (!v53) (some (2:Int)) ((Z3 N v p.Kind).bind fun v56=>cond (!v56) ((Z1 N p.Kind p.Code).bind fun v59=>cond (!v59) (some 2) ((Q5 N v p.Kind p.Props).bind fun v62=>some v62)) ((Q5 N v p.Kind p.Props).bind fun v64=>some v64)))) (· = Ql3 v p):=fun h8=>by
  have no:¬ Qtd v p→TotP (fun _=>some (2:Int)) (· = Ql3 v p):=fun x => .ret (Qvn hk h8 x).symm;refine Au (.of fun N=>Qsb h N p.Kind) ?_;refine Aw (fun g=>?_) (fun g=>?_)
  ·have hp:=Ac (bN g);refine At (Jj p (Z79 p) h.l) (fun b hb=>?_);refine Aw (fun g2=>no fun x=>by rw [hb.2 (x.2 hp).2] at g2;cases g2) (fun g2=>?_);refine Au (.of fun N=>Qsb h N p.Kind) ?_;refine Aw (fun _=>?_) (fun g=>absurd (Aa (bP g)) hp);refine Au (Qhe _ _) ?_;refine Aw (fun g1=>no fun x=>by have:=(x.2 hp).1;rw [bN g1] at this;cases this) (fun g1=>?_);refine Au (Q6u h (fun x=>absurd x (by unfold Qao at hp;omega))) (.ret ?_);rw [Qlq hk h8 ⟨fun x=>absurd x hp,fun _=>⟨bP g1,hb.1 (bP g2)⟩⟩]
  have hp:=Aa (bP g);refine At (Jj p (Z6v p) h.l) (fun b hb=>?_);refine Aw (fun g2=>no fun x=>by rw [hb.2 (x.1 hp)] at g2;cases g2) (fun g2=>?_);have he:=hb.1 (bP g2);refine Au (.of fun N=>Qsb h N p.Kind) ?_;refine Aw (fun g=>absurd hp (Ac (bN g))) (fun _=>?_);refine Au (Q6u h (fun _=>by rw [he];rfl)) (.ret ?_);rw [Qlq hk h8 ⟨fun _=>he,fun x=>absurd hp x⟩]
 rw [Qa,Qa];refine Aw (fun g5=>?_) (fun g5=>main fun x=>Ac g5 x.1);refine Aw (fun g4 => .ret (Z06 hk ⟨Aa g5,Aa g4⟩).symm) (fun g4=>main fun x=>Ac g4 x.2)
noncomputable def Z3w (v:Int) (p:Q1):List UInt8×Int:=if Ql3 v p=0 then (Qq9 p.Kind p.Code p.Props,0) else ([],Ql3 v p)
theorem Z0l (h0:Ql3 v p=0):Qu6 v p.Kind∧Qtd v p∧Q6x p.Kind [] p.Props=0∧(0≤p.Code∧p.Code<256)∧¬ (p.Kind=15∧v=4):=by
 unfold Ql3 at h0;split at h0
 ·rename_i hk;split at h0
  ·exact absurd h0 (by decide)
  split at h0
  ·rename_i h8 hok;refine ⟨hk,hok,h0,?_,h8⟩
   by_cases hp:Qao v p.Kind
   ·have e:p.Code=(Z6v p).Code:=congrArg Q1.Code (hok.1 hp);rw [e];exact ⟨Int.le_refl _,(by decide:(0:Int)<256)⟩
   exact Qof h (hok.2 hp).1
  exact absurd h0 (by decide)
 exact absurd h0 (by decide)
theorem Z8h:Tot (fun N=>Q2b N v p) (Z3w v p):=by
 refine Ar ?_;unfold Q2b Z3w;refine Au (Z90 h) ?_;rw [Qq];refine Aw (fun g => .ret (by rw [Ae (Aa g)])) (fun g=>?_);have h0:Ql3 v p=0:=Decidable.byContradiction fun x=>Ac g x;obtain ⟨hk,ok,hl0,hc,h8⟩:=Z0l h h0;rw [Af h0]
 haveI:Kd p.Kind:=⟨by have:=hk.2;omega,by have:=hk.2;omega⟩
 have hb1:=Yv 1 p.Code.toNat;have hw:=Qdk (k:=p.Kind) h.props.len;refine Au (v:=Qq9 p.Kind p.Code p.Props) (Ar ?_) (.ret rfl);unfold Q63 Qq9;refine Au (Q9d _ h.props.len h.props.txt) ?_;rw [Qd,Qy,Qq,Qy,Qy,Q4];refine Aw (fun g=>absurd (Aa g) (by omega)) (fun _=>?_);refine Aw (fun g=>absurd (Aa g) (by omega)) (fun _=>?_);refine Aw (fun g=>absurd ((Z15 _).trans hl0) (Aa g)) (fun _=>?_);refine Au (Q12 p.Code (by omega) 1 (by omega)) ?_;refine Aw (fun g2=>?_) (fun g2=>?_)
 ·have g2:=Aa g2
  have g2:p.Props ≠ []:=fun x=>by rw [x] at g2;exact absurd g2 (by decide)
  rw [Ae (fun x=>g2 x.2),Ae g2];exact Ax (by rw [Ln];omega) (.ret rfl)
 have g2:p.Props = []:=Mi.1 (by have:=Ac g2;omega);refine Aw (fun g3 => .ret ?_) (fun g3 => .ret ?_)
 ·have g3:=Aa g3;rw [Ae (fun x=>by omega),Af g2,Lu]
 have g3:=Ac g3;rw [Af ⟨by omega,g2⟩]
theorem Z8g:Tot (fun N=>Gc N v p) (Z3w v p):=by
 refine Ar ?_;unfold Gc Z3w;refine Au (Z66 h) ?_;rw [Qq];refine Aw (fun g => .ret (by rw [Ae (Aa g)])) (fun g=>?_);have h0:Ql3 v p=0:=Decidable.byContradiction fun x=>Ac g x;obtain ⟨hk,ok,hl0,hc,h8⟩:=Z0l h h0;rw [Af h0]
 haveI:Kd p.Kind:=⟨by have:=hk.2;omega,by have:=hk.2;omega⟩
 refine Au (.of fun N=>Qsb h N p.Kind) ?_;refine Aw (fun g => .ret ?_) (fun g=>?_)
 ·have e:=ok.1 (Aa g);have e1:p.Code=0:=congrArg Q1.Code e;have e2:p.Props = []:=congrArg Q1.Props e;unfold Qq9;rw [Af ⟨e1,e2⟩,h0]
 refine Au (v:=Qq9 p.Kind p.Code p.Props) (Ar ?_) (.ret rfl);unfold Q1d;rw [Qd,Qy];refine Aw (fun g=>absurd (Aa g) (by omega)) (fun _=>?_);refine Aw (fun g=>absurd (Aa g) (by omega)) (fun _=>?_);refine Au (Qdw _ h.props.len h.props.txt) ?_;rw [hl0];refine Aw (fun g=>nomatch g) (fun _=>?_);exact Au (Z0p h (.inr rfl) hc (fun x=>absurd x (by decide))) (.ret rfl)
end
end
end Go.Av
namespace Go.Av
noncomputable section
def Z9a:Xn:=⟨[],[],0,false,[]⟩
def Qxl (p:Q1):Q1:=cond (decide (p.Kind=2)) ⟨p.Kind,false,false,0,0,[],[],false,0,[],false,[],false,[],false,(⟨[],[],0,false,[]⟩:Xn),p.Session,p.Code,[],[],p.Props⟩
 ⟨p.Kind,false,false,0,0,[],[],p.Clean,p.KeepAlive,p.Client,p.HasUser,cond p.HasUser p.User [],p.HasPass,cond p.HasPass p.Pass [],p.HasWill,cond p.HasWill p.Will Z9a,false,0,[],[],p.Props⟩
def Qxj (v:Int) (p:Q1):Prop:=(v=4→p.Props = []∧p.Will.Props = [])∧(p.Kind=2→(v=4→0≤p.Code∧p.Code≤5)∧(v≠4→Qqg 2 p.Code=true)∧(p.Session=true→p.Code=0)) ∧
 (p.Kind≠2→(v=4→(p.Client = []→p.Clean=true)∧(p.HasPass=true→p.HasUser=true))∧(0≤p.KeepAlive∧p.KeepAlive<65536)∧0≤p.Will.QoS∧p.Will.QoS≤2)
def Z3x (v:Int) (p:Q1):Prop:=(v=4∨v=5)∧(p.Kind=1∨p.Kind=2)∧p=Qxl p∧Qxj v p
open Classical in
noncomputable def Qti (v:Int) (p:Q1):Int:=if Z3x v p then (if (Vg p.Client&&Vg p.User)=false then 6 else if (p.HasWill && !(Q04 p.Will.Topic))=true then 10 else if Q6x p.Kind [] p.Props≠0 then Q6x p.Kind [] p.Props else Q6x 16 [] p.Will.Props) else 2
theorem Qi4 {v:Int} {p:Q1} (h:¬ Z3x v p):TotP (fun _=>some (2:Int)) (· = Qti v p) := .ret (by unfold Qti;rw [Ae h])
section
variable {v:Int} {p:Q1} (h:Qd0 p)
include h
theorem Z47:TotP (fun N=>Q2y N p) (fun b=>b=true↔p=Qxl p):=by
 have hs:∀ q:Q1,Qxl p=q→TotP (fun N=>(Z6 N p q).bind fun v=>some v) (fun b=>b=true↔p=Qxl p):=fun q e=>by
  rw [e];exact At (Q1p p q h.l) (fun b hb => .ret hb)
 unfold Q2y;rw [Qa];refine Aw (fun g=>hs _ (by unfold Qxl;rw [g];rfl)) (fun g=>?_);refine Aw (fun g1=>?_) (fun g1=>?_)
 all_goals refine Aw (fun g2=>?_) (fun g2=>?_)
 all_goals refine Aw (fun g3=>hs _ (by unfold Qxl;rw [g];simp only [g1,g2,g3,Ai,Ah]<;>rfl)) (fun g3=>hs _ (by unfold Qxl;rw [g];simp only [g1,g2,g3,Ai,Ah]<;>rfl))
theorem Z8f (N:Nat):V4 N v p=some (Qxl p):=by
 unfold V4 Qxl;rw [Qa];cases decide (p.Kind=2)<;>cases p.HasUser<;>cases p.HasPass<;>cases p.HasWill<;>rfl
theorem Z2g:TotP (fun N=>Q27 N v p) (fun b=>b=true↔Qxj v p):=by
 have hp:=h.props.len;have hw:=h.wprops.len;have e0:∀ l:List Qb,l = []↔l.length=0:=fun l=>Mi.symm
 have kk:TotP (fun _=>cond (decide (p.KeepAlive≥0)) (cond (decide (p.KeepAlive<65536)) (cond (decide (p.Will.QoS≥0)) (some (decide (p.Will.QoS≤2))) (some false)) (some false)) (some false)) (fun b=>b=true↔((0≤p.KeepAlive∧p.KeepAlive<65536)∧0≤p.Will.QoS∧p.Will.QoS≤2)):=by
  repeat' first
   | refine Aw (fun g=>?_) (fun g=>?_)
   | refine TotP.ret ?_
  all_goals simp only [Ag,An,reduceCtorEq,false_iff] at *
  all_goals omega
 have mono:∀ {f:Nat→Option Bool} {A B:Prop},TotP f (fun b=>b=true↔A)→(A↔B)→TotP f (fun b=>b=true↔B):=fun a b=>a.mono fun _ x=>x.trans b;have no:¬ Qxj v p→TotP (fun _=>some false) (fun b=>b=true↔Qxj v p):=fun x => .ret ⟨fun y=>(nomatch y),fun y=>absurd y x⟩;unfold Q27;simp only [Qa,Qy,Wx,Xu,Qd,Gq,Q4];rw [w64 _ (by omega)];refine Aw (fun g4=>?_) (fun g4=>?_)
 ·have g4:=Aa g4;refine Aw (fun g=>no fun x=>?_) (fun g=>?_)
  ·have g:=Aa g;have:=x.1 g4;rw [this.1,this.2] at g;exact absurd g (by decide)
  have g:=Ac g;have z1:p.Props = []:=(e0 _).2 (by omega);have z2:p.Will.Props = []:=(e0 _).2 (by omega);refine Aw (fun gk=>?_) (fun gk=>?_)
  ·have gk:=Aa gk;refine At (V:=fun _=>True) (Qua _ _) (fun _ _=>?_);refine Au (v:=decide (0≤p.Code∧p.Code≤5)) (.of fun N=>?_) ?_
   ·unfold Q4q;rw [Xu,Xu,Bj];cases decide (0≤p.Code)<;>rfl
   refine Aw (fun g1=>?_) (fun g1=>no fun x=>Ac g1 ((x.2.1 gk).1 g4));have g1:=Aa g1;refine Aw (fun g2 => .ret ⟨fun _=>⟨fun _=>⟨z1,z2⟩,fun _=>⟨fun _=>g1,fun x=>absurd g4 x,fun _=>Aa g2⟩,fun x=>absurd gk x⟩,fun _=>rfl⟩) (fun g2 => .ret ⟨fun y=>⟨fun _=>⟨z1,z2⟩,fun _=>⟨fun _=>g1,fun x=>absurd g4 x,fun x=>by rw [x] at y;cases y⟩,fun x=>absurd gk x⟩,fun x=>?_⟩)
   cases hs:p.Session with
   | false=>rfl
   | true=>exact absurd ((x.2.1 gk).2.2 hs) (Ac g2)
  have gk:=Ac gk;have kr:((p.Client = []→p.Clean=true)∧(p.HasPass=true→p.HasUser=true))→(((0≤p.KeepAlive∧p.KeepAlive<65536)∧0≤p.Will.QoS∧p.Will.QoS≤2)↔Qxj v p):=fun a=>⟨fun b=>⟨fun _=>⟨z1,z2⟩,fun x=>absurd x gk,fun _=>⟨fun _=>a,b⟩⟩,fun b=>(b.2.2 gk).2⟩
  have pas:(p.Client = []→p.Clean=true)→TotP (fun _=>cond p.HasPass (cond (!p.HasUser) (some false) (cond (decide (p.KeepAlive≥0)) (cond (decide (p.KeepAlive<65536)) (cond (decide (p.Will.QoS≥0)) (some (decide (p.Will.QoS≤2))) (some false)) (some false)) (some false)))
    (cond (decide (p.KeepAlive≥0)) (cond (decide (p.KeepAlive<65536)) (cond (decide (p.Will.QoS≥0)) (some (decide (p.Will.QoS≤2))) (some false)) (some false)) (some false))) (fun b=>b=true↔Qxj v p):=fun a=>by
   refine Aw (fun g1=>?_) (fun g1=>mono kk (kr ⟨a,fun x=>by rw [g1] at x;cases x⟩));refine Aw (fun g2=>no fun x=>?_) (fun g2=>mono kk (kr ⟨a,fun _=>bP g2⟩));have:=((x.2.2 gk).1 g4).2 g1;rw [bN g2] at this;cases this
  refine Aw (fun g1=>?_) (fun g1=>pas fun x=>absurd x (Ac g1));refine Aw (fun g2=>no fun x=>?_) (fun g2=>pas fun _=>bP g2);have:=((x.2.2 gk).1 g4).1 (Aa g1);rw [bN g2] at this;cases this
 have g4:=Ac g4;refine Aw (fun gk=>?_) (fun gk=>?_)
 ·have gk:=Aa gk;rw [gk];refine Au (Qhj 2 p.Code) ?_;refine Aw (fun g1=>?_) (fun g1=>no fun x=>by have:=(x.2.1 gk).2.1 g4;rw [g1] at this;cases this);refine Aw (fun g2 => .ret ⟨fun _=>⟨fun x=>absurd x g4,fun _=>⟨fun x=>absurd x g4,fun _=>g1,fun _=>Aa g2⟩,fun x=>absurd gk x⟩,fun _=>rfl⟩) (fun g2 => .ret ⟨fun y=>⟨fun x=>absurd x g4,fun _=>⟨fun x=>absurd x g4,fun _=>g1,fun x=>by rw [x] at y;cases y⟩,fun x=>absurd gk x⟩,fun x=>?_⟩)
  cases hs:p.Session with
  | false=>rfl
  | true=>exact absurd ((x.2.1 gk).2.2 hs) (Ac g2)
 have gk:=Ac gk;exact mono kk ⟨fun b=>⟨fun x=>absurd x g4,fun x=>absurd x gk,fun _=>⟨fun x=>absurd x g4,b⟩⟩,fun b=>(b.2.2 gk).2⟩
end
end
end Go.Av
namespace Go.Av
noncomputable section
open Classical in
noncomputable def Z13 (p:Q1):Int:=if (Vg p.Client&&Vg p.User)=false then 6 else if (p.HasWill && !(Q04 p.Will.Topic))=true then 10 else if Q6x p.Kind [] p.Props≠0 then Q6x p.Kind [] p.Props else Q6x 16 [] p.Will.Props
theorem Qv0 {v:Int} {p:Q1} (h:Z3x v p):Qti v p=Z13 p:=by unfold Qti Z13;rw [Af h]
section
variable {v:Int} {p:Q1} (h:Qd0 p)
include h
theorem Qwa {V1 V3:Nat→List UInt8→Option Bool} {P1 P2:Nat→Option Int} (h1:∀ s,Tot (fun N=>V1 N s) (Vg s)) (h3:∀ s:List UInt8,s.length≤maxLen→Tot (fun N=>V3 N s) (Q04 s)) (hp1:Tot P1 (Q6x p.Kind [] p.Props)) (hp2:Tot P2 (Q6x 16 [] p.Will.Props)) :
  TotP (fun N=>(V1 N p.Client).bind fun v13=>cond (!v13) (some (6:Int)) ((V1 N p.User).bind fun v16=>cond (!v16) (some 6) (cond p.HasWill ((V3 N p.Will.Topic).bind fun v20=>cond (!v20) (some 10) (cond (Q3 .gtr (p.Will.Payload.length:Int) 65535) (some 2) (cond (Q3 .gtr (p.Pass.length:Int) 65535) (some 2)
   ((P1 N).bind fun v25=>cond (Q3 .neq v25 0) (some v25) ((P2 N).bind fun v28=>some v28))))) (cond (Q3 .gtr (p.Will.Payload.length:Int) 65535) (some 2) (cond (Q3 .gtr (p.Pass.length:Int) 65535) (some 2) ((P1 N).bind fun v25=>cond (Q3 .neq v25 0) (some v25) ((P2 N).bind fun v28=>some v28))))))) (· = Z13 p):=by
 have l1:=h.wpayload;have l2:=h.pass;have l3:=h.wtopic
 have fin:(Vg p.Client&&Vg p.User)=true→(p.HasWill && !(Q04 p.Will.Topic))=false→TotP (fun N=>cond (Q3 .gtr (p.Will.Payload.length:Int) 65535) (some 2) (cond (Q3 .gtr (p.Pass.length:Int) 65535) (some 2) ((P1 N).bind fun v25=>cond (Q3 .neq v25 0) (some v25) ((P2 N).bind fun v28=>some v28)))) (· = Z13 p):=fun a b=>by
  unfold Z13;rw [Ae (by rw [a];decide),Ae (by rw [b];decide),Qy,Qy];refine Aw (fun g=>absurd (Aa g) (by omega)) (fun _=>?_);refine Aw (fun g=>absurd (Aa g) (by omega)) (fun _=>?_);refine Au hp1 ?_;rw [Qq];refine Aw (fun g => .ret (by rw [Af (Aa g)])) (fun g=>?_);rw [Ae (Ac g)];exact Au hp2 (.ret rfl)
 refine Au (h1 _) ?_;refine Aw (fun g => .ret (by unfold Z13;rw [Af (by rw [bN g];rfl)])) (fun g1=>?_);refine Au (h1 _) ?_;refine Aw (fun g => .ret (by unfold Z13;rw [Af (by rw [bN g,Bool.and_false])])) (fun g2=>?_)
 have a:(Vg p.Client&&Vg p.User)=true:=by rw [bP g1,bP g2];rfl
 refine Aw (fun gw=>?_) (fun gw=>fin a (by rw [gw];rfl));refine Au (h3 _ (by have:=ml2;omega)) ?_;refine Aw (fun g => .ret (by unfold Z13;rw [Ae (by rw [a];decide),Af (by rw [gw,g];rfl)])) (fun g=>fin a (by rw [gw,g];rfl))
theorem Z8z:Tot (fun N=>Q2r N v p) (Qti v p):=by
 refine Ar ?_;unfold Q2r;refine Au (v:=decide (v=4∨v=5)) (.of fun N=>Qed N v) ?_;refine Aw (fun g=>Qi4 fun x=>Ac (bN g) x.1) (fun gv=>?_);refine Au (v:=decide (p.Kind=1∨p.Kind=2)) (.of fun N=>?_) ?_
 ·unfold Q61;rw [Qa,Qa,Ct];cases decide (p.Kind=1)<;>rfl
 refine Aw (fun g=>Qi4 fun x=>Ac (bN g) x.2.1) (fun gk=>?_);refine At (Z47 h) (fun b hb=>?_);refine Aw (fun g=>Qi4 fun x=>by rw [hb.2 x.2.2.1] at g;cases g) (fun gb=>?_);refine At (Z2g h) (fun c hc=>?_);refine Aw (fun g=>Qi4 fun x=>by rw [hc.2 x.2.2.2] at g;cases g) (fun gc=>?_);have hk:=Aa (bP gk);rw [Qv0 ⟨Aa (bP gv),hk,hb.1 (bP gb),hc.1 (bP gc)⟩]
 haveI:Kd p.Kind:=⟨by omega,by omega⟩
 haveI:Kd 16:=⟨by decide,by decide⟩
 exact Qwa h (fun s=>Q96 s) (fun s hs=>Qf8 s hs) (Q91 h p.Kind) (Qid _ h.wprops.len h.wprops.txt)
theorem Qyy (hv:v=4∨v=5) (hk:p.Kind=1∨p.Kind=2) (s:Bool):TotP (fun N=>Z5 N v p s) (fun b=>b=true↔(s=false∧Qxj v p)):=by
 have fal:∀ {A:Prop},¬ A→TotP (fun _=>some false) (fun b=>b=true↔A):=fun x => .ret ⟨fun y=>(nomatch y),fun y=>absurd y x⟩;have mono:∀ {f:Nat→Option Bool} {A B:Prop},TotP f (fun b=>b=true↔A)→(A↔B)→TotP f (fun b=>b=true↔B):=fun a b=>a.mono fun _ x=>x.trans b
 have j2:∀ s,TotP (fun N=>Zw N p s) (fun b=>b=true↔(s=false∧(p.Session=true→p.Code=0))):=fun s=>by
  unfold Zw;rw [Qa];refine Aw (fun g=>fal fun x=>by rw [x.1] at g;cases g) (fun g=>?_);refine Aw (fun g1 => .ret ⟨fun _=>⟨g,fun x=>by rw [bN g1] at x;cases x⟩,fun _=>rfl⟩) (fun g1 => .ret ⟨fun y=>⟨g,fun _=>Aa y⟩,fun x=>Ad (x.2 (bP g1))⟩)
 have j3:∀ o,TotP (fun N=>Qu N p o) (fun b=>b=true↔(o=false∧(0≤p.KeepAlive∧p.KeepAlive<65536)∧0≤p.Will.QoS∧p.Will.QoS≤2)):=fun o=>by
  unfold Qu;rw [Wx,Wx,Xu,Xu];refine Aw (fun g=>?_) (fun g=>fal fun x=>by rw [x.1] at g;cases g);refine Aw (fun g1=>?_) (fun g1=>fal fun x=>Ac g1 x.2.1.1);refine Aw (fun g2=>?_) (fun g2=>fal fun x=>by have:=Ac g2;have:=x.2.1.2;omega);refine Aw (fun g3 => .ret ?_) (fun g3=>fal fun x=>Ac g3 x.2.2.1);have g1:=Aa g1;have g2:=Aa g2;have g3:=Aa g3;exact ⟨fun y=>⟨bN g,⟨g1,by omega⟩,g3,Aa y⟩,fun x=>Ad x.2.2.2⟩
 have j1:(v=4→p.Props = []∧p.Will.Props = [])→∀ s,TotP (fun N=>Zu N v p s) (fun b=>b=true↔(s=false∧Qxj v p)):=fun hz s=>by
  unfold Zu;refine Aw (fun g=>fal fun x=>by rw [x.1] at g;cases g) (fun gs=>?_);rw [Qa,Qa,Qa,Gq];refine Aw (fun gk=>?_) (fun gk=>?_)
  ·have gk:=Aa gk;refine Aw (fun g4=>?_) (fun g4=>?_)
   ·have g4:=Aa g4;refine Au (v:=decide (0≤p.Code∧p.Code≤5)) (.of fun N=>?_) ?_
    ·unfold Q0e;rw [Wx,Xu,Bj];cases decide (p.Code≥0)<;>rfl
    refine Aw (fun g=>mono (j2 true) ⟨fun x=>(nomatch x.1),fun x=>absurd ((x.2.2.1 gk).1 g4) (Ac (bN g))⟩) (fun g=>?_);have g:=Aa (bP g);refine Aw (fun g5=>absurd (Aa g5) (by omega)) (fun _=>?_);exact mono (j2 false) ⟨fun x=>⟨gs,hz,fun _=>⟨fun _=>g,fun y=>absurd g4 y,x.2⟩,fun y=>absurd gk y⟩,fun x=>⟨rfl,(x.2.2.1 gk).2.2⟩⟩
   have g4:=Ac g4;refine Aw (fun _=>?_) (fun g5=>absurd (hv.resolve_left g4) (Ac g5));refine Au (Qhe 2 p.Code) ?_;exact mono (j2 _) ⟨fun x=>⟨gs,hz,fun _=>⟨fun y=>absurd y g4,fun _=>bP x.1,x.2⟩,fun y=>absurd gk y⟩,fun x=>⟨by rw [(x.2.2.1 gk).2.1 g4];rfl,(x.2.2.1 gk).2.2⟩⟩
  have gk:=Ac gk;refine Aw (fun g4=>?_) (fun g4=>?_)
  ·have g4:=Aa g4
   have bad:∀ o,(o=false↔((p.Client = []→p.Clean=true)∧(p.HasPass=true→p.HasUser=true)))→TotP (fun N=>Qu N p o) (fun b=>b=true↔(s=false∧Qxj v p)):=fun o ho=>
    mono (j3 o) ⟨fun x=>⟨gs,hz,fun y=>absurd y gk,fun _=>⟨fun _=>ho.1 x.1,x.2⟩⟩,fun x=>⟨ho.2 ((x.2.2.2 gk).1 g4),(x.2.2.2 gk).2⟩⟩
   have pas:(p.Client = []→p.Clean=true)→TotP (fun N=>cond p.HasPass (Qu N p (!p.HasUser)) (Qu N p false)) (fun b=>b=true↔(s=false∧Qxj v p)):=fun a=>by
    refine Aw (fun g1=>bad _ ⟨fun x=>⟨a,fun _=>bP x⟩,fun x=>by rw [x.2 g1];rfl⟩) (fun g1=>bad _ ⟨fun _=>⟨a,fun x=>by rw [g1] at x;cases x⟩,fun _=>rfl⟩)
   refine Aw (fun g1=>?_) (fun g1=>pas fun x=>absurd x (Ac g1));refine Aw (fun g2=>bad _ ⟨fun x=>(nomatch x),fun x=>?_⟩) (fun g2=>pas fun _=>bP g2);have:=x.1 (Aa g1);rw [bN g2] at this;cases this
  have g4:=Ac g4;exact mono (j3 false) ⟨fun x=>⟨gs,hz,fun y=>absurd y gk,fun _=>⟨fun y=>absurd y g4,x.2⟩⟩,fun x=>⟨rfl,(x.2.2.2 gk).2⟩⟩
 have e0:∀ l:List Qb,l = []↔l.length=0:=fun l=>Mi.symm;unfold Z5;refine Aw (fun g=>fal fun x=>by rw [x.1] at g;cases g) (fun gs=>?_);rw [Qa,Qy,Qy,Q4,Q4]
 have j1x:∀ (b:Bool),TotP (fun N=>Zu N v p true) (fun b=>b=true↔False):=fun _=>by
  unfold Zu;exact .ret ⟨fun y=>(nomatch y),fun y=>y.elim⟩
 refine Aw (fun g4=>?_) (fun g4=>mono (j1 (fun x=>absurd x (Ac g4)) false) ⟨fun x=>⟨gs,x.2⟩,fun x=>⟨rfl,x.2⟩⟩);have g4:=Aa g4;refine Aw (fun g=>?_) (fun g=>?_)
 ·have g:=Aa g;exact mono (j1x true) ⟨fun x=>x.elim,fun x=>by rw [(x.2.1 g4).1] at g;exact absurd g (by decide)⟩
 have z1:p.Props = []:=(e0 _).2 (by have:=Ac g;omega)
 cases gw:decide ((p.Will.Props.length:Int)>0) with
 | true=>
  have gw:=Aa gw;exact mono (j1x true) ⟨fun x=>x.elim,fun x=>by rw [(x.2.1 g4).2] at gw;exact absurd gw (by decide)⟩
 | false=>
  have z2:p.Will.Props = []:=(e0 _).2 (by have:=Ac gw;omega);exact mono (j1 (fun _=>⟨z1,z2⟩) false) ⟨fun x=>⟨gs,x.2⟩,fun x=>⟨rfl,x.2⟩⟩
theorem Z2b:TotP (fun N=>Uz N v p) (fun b=>b=true↔Z3x v p):=by
 have j0x:TotP (fun N=>Z5 N v p true) (fun b=>b=true↔False):=by
  unfold Z5;exact .ret ⟨fun y=>(nomatch y),fun y=>y.elim⟩
 have mono:∀ {f:Nat→Option Bool} {A B:Prop},TotP f (fun b=>b=true↔A)→(A↔B)→TotP f (fun b=>b=true↔B):=fun a b=>a.mono fun _ x=>x.trans b;unfold Uz;refine Au (.of fun N=>Qed N v) ?_;refine Aw (fun g=>mono j0x ⟨fun x=>x.elim,fun x=>Ac (bN g) x.1⟩) (fun gv=>?_);have hv:=Aa (bP gv)
 have main:(p.Kind=1∨p.Kind=2)→TotP (fun N=>(V4 N v p).bind fun v48=>(Qi N p v48).bind fun v50=>Z5 N v p (!v50)) (fun b=>b=true↔Z3x v p):=fun hk=>by
  refine Au (.of fun N=>Z8f h N) ?_;refine At (Jj p (Qxl p) h.l) (fun b hb=>?_);refine mono (Qyy h hv hk (!b)) ⟨fun x=>⟨hv,hk,hb.1 (bP x.1),x.2⟩,fun x=>⟨by rw [hb.2 x.2.2.1];rfl,x.2.2.2⟩⟩
 rw [Qq,Qq];refine Aw (fun g1=>?_) (fun g1=>main (.inl (Decidable.byContradiction fun x=>Ac g1 x)));refine Aw (fun g2=>mono j0x ⟨fun x=>x.elim,fun x=>by have a:p.Kind≠1:=Aa g1;have b:p.Kind≠2:=Aa g2;exact x.2.1.elim a b⟩) (fun g2=>main (.inr (Decidable.byContradiction fun x=>Ac g2 x)))
theorem Z4k:Tot (fun N=>U1 N v p) (Qti v p):=by
 refine Ar ?_;unfold U1;refine At (Z2b h) (fun b hb=>?_);refine Aw (fun g=>Qi4 fun x=>by rw [hb.2 x] at g;cases g) (fun g=>?_);have hF:=hb.1 (bP g);rw [Qv0 hF]
 haveI:Kd p.Kind:=⟨by have:=hF.2.1;omega,by have:=hF.2.1;omega⟩
 haveI:Kd 16:=⟨by decide,by decide⟩
 have hw:Tot (fun N=>Q5 N v 16 p.Will.Props) (Q6x 16 [] p.Will.Props):=by
  refine Ar ?_;unfold Q5;rw [Qa];refine Aw (fun g=>?_) (fun _=>Au (Qdw _ h.wprops.len h.wprops.txt) (.ret rfl));rw [(hF.2.2.2.1 (Aa g)).2];exact Aw (fun g=>nomatch g) (fun _ => .ret rfl)
 exact Qwa h (fun s=>Q47 s) (fun s hs=>Qfa s hs) (Q6u h fun x=>(hF.2.2.2.1 x).1) hw
end
end
end Go.Av
namespace Go.Av
noncomputable section
theorem Qos:∀ l:List (List UInt8),Go.Lib.join l []=l.flatten
 | []=>rfl
 | [a]=>by simp [Go.Lib.join]
 | a::b::l=>by
  have:=Qos (b::l);simp [Go.Lib.join] at this ⊢;exact this
theorem Qza (N:Nat) (l:List (List UInt8)) (h1:l.length≤10) (h2:l.flatten.length≤1000000000):Wc N l=some l.flatten:=by
 unfold Wc Q8g;rw [Qos,show (Nat.ble l.length 140737488355328&&Nat.ble l.flatten.length 140737488355328)=true by rw [La,Ln,Ln];omega];rfl
def Qjm (b:Bool) (n:Int):Int:=cond b n 0
def Qu0 (p:Q1):Int:=Qjm p.HasUser 128+Qjm p.HasPass 64+Qjm p.Will.Retain 32+8 * p.Will.QoS+Qjm p.HasWill 4+Qjm p.Clean 2
def Qib (v k:Int) (l:List Qb):List UInt8:=if v=4 then [] else (Qhg k l).1
def Qhu (v:Int) (p:Q1):List UInt8:=cond (decide (p.Kind=2)) ([cond p.Session 1 0]++(Qb4 p.Code.toNat 1++Qib v p.Kind p.Props))
 ([0,4,77,81,84,84]++(Qb4 v.toNat 1++(Qb4 (Qu0 p).toNat 1++(Qb4 p.KeepAlive.toNat 2++(Qib v p.Kind p.Props++(Qgx p.Client++(cond p.HasWill (Qib v 16 p.Will.Props++(Qgx p.Will.Topic++Qgx p.Will.Payload)) []++(cond p.HasUser (Qgx p.User) []++cond p.HasPass (Qgx p.Pass) []))))))))
noncomputable def Z3r (v:Int) (p:Q1):List UInt8×Int:=if Qti v p=0 then (Qhu v p,0) else ([],Qti v p)
theorem Z0k {v:Int} {p:Q1} (h0:Qti v p=0):Z3x v p:=by
 refine Mb fun x=>?_;unfold Qti at h0;rw [Ae x] at h0;exact absurd h0 (by decide)
theorem Z0i {p:Q1} (hq:0≤p.Will.QoS∧p.Will.QoS≤2):0≤Qu0 p∧Qu0 p<256:=by
 unfold Qu0 Qjm;cases p.HasUser<;>cases p.HasPass<;>cases p.Will.Retain<;>cases p.HasWill<;>cases p.Clean<;>simp only [Ai,Ah]<;>omega
def orC (b:Bool) (o n:Int):Int:=cond b (orI .i64 o n) o
theorem Zw8 (N n:Nat) (p:Q1) (o:Int):Qj N p (n+1) o 0=Qj N p n (orC p.Clean o 2) 1:=by
 show cond p.Clean (Qj N p n (orI .i64 o 2) 1) (Qj N p n o 1)=_;unfold orC;cases p.Clean<;>rfl
theorem Zt4 (N n:Nat) (p:Q1) (o:Int):Qj N p (n+1) o 1=Qj N p n (orC p.HasWill o 4) 2:=by
 show cond p.HasWill (Qj N p n (orI .i64 o 4) 2) (Qj N p n o 2)=_;unfold orC;cases p.HasWill<;>rfl
theorem Zv1 (N n:Nat) (p:Q1) (o:Int):Qj N p (n+1) o 2=Qj N p n (orC p.Will.Retain o 32) 3:=by
 show cond p.Will.Retain (Qj N p n (orI .i64 o 32) 3) (Qj N p n o 3)=_;unfold orC;cases p.Will.Retain<;>rfl
theorem Zr5 (N n:Nat) (p:Q1) (o:Int):Qj N p (n+1) o 3=Qj N p n (orC p.HasPass o 64) 4:=by
 show cond p.HasPass (Qj N p n (orI .i64 o 64) 4) (Qj N p n o 4)=_;unfold orC;cases p.HasPass<;>rfl
theorem Ztt (N n:Nat) (p:Q1) (o:Int):Qj N p (n+1) o 4=Qj N p n (orC p.HasUser o 128) 5:=by
 show cond p.HasUser (Qj N p n (orI .i64 o 128) 5) (Qj N p n o 5)=_;unfold orC;cases p.HasUser<;>rfl
theorem Z1r {p:Q1} (hk:p.Kind=1) (hq:0≤p.Will.QoS∧p.Will.QoS≤2):Tot (fun N=>Q2t N p) (Qu0 p):=by
 refine ⟨10,fun N hN=>?_⟩;obtain ⟨M,rfl⟩:∃ M,N=M+6:=⟨N - 6,by omega⟩;unfold Q2t Qu0;rw [hk];show Qj (M+6) p (M+5+1) (Qb3 .i64 (Q6v .i64 p.Will.QoS 3) 3) 0=_;rw [Zw8,show M+5=M+4+1 from rfl,Zt4,show M+4=M+3+1 from rfl,Zv1,show M+3=M+2+1 from rfl,Zr5,show M+2=M+1+1 from rfl,Ztt];show some _=_
 have hq3:p.Will.QoS=0∨p.Will.QoS=1∨p.Will.QoS=2:=by omega
 generalize p.Will.QoS=q at hq3;generalize p.Clean=a;generalize p.HasWill=b;generalize p.Will.Retain=c;generalize p.HasPass=d;generalize p.HasUser=u
 have all:∀ q∈([0,1,2]:List Int),∀ a b c d u:Bool,orC u (orC d (orC c (orC b (orC a (Qb3 .i64 (Q6v .i64 q 3) 3) 2) 4) 32) 64) 128=Qjm u 128+Qjm d 64+Qjm c 32+8 * q+Qjm b 4+Qjm a 2:=by decide +kernel
 rw [all q (by simp;omega) a b c d u]
theorem Z1g {p:Q1} (hk:p.Kind=1) (hq:0≤p.Will.QoS∧p.Will.QoS≤2) (N:Nat):Jk N p=some (Qu0 p):=by
 unfold Jk Qu0 X5;rw [hk]
 have hq3:p.Will.QoS=0∨p.Will.QoS=1∨p.Will.QoS=2:=by omega
 generalize p.Will.QoS=q at hq3;generalize p.Clean=a;generalize p.HasWill=b;generalize p.Will.Retain=c;generalize p.HasPass=d;generalize p.HasUser=u
 have all:∀ q∈([0,1,2]:List Int),∀ a b c d u:Bool,wrap .i64 ((wrap .i64 ((wrap .i64 ((wrap .i64 ((wrap .i64 (Qjm u 128+Qjm d 64))+Qjm c 32))+(wrap .i64 ((((wrap .i64 (((q:Int).tmod 4)+4)):Int).tmod 4) * 8))))+Qjm b 4))+Qjm a 2)=Qjm u 128+Qjm d 64+Qjm c 32+8 * q+Qjm b 4+Qjm a 2:=by decide +kernel
 rw [← all q (by simp;omega) a b c d u];unfold Qjm;cases a<;>cases b<;>cases c<;>cases d<;>cases u<;>rfl
end
end Go.Av
namespace Go.Av
noncomputable section
section
variable {v:Int} {p:Q1} (h:Qd0 p)
include h
theorem Z0u (hv:v=4∨v=5) {k:Int} [Kd k] {l:List Qb} (hl:OkP l):Tot (fun N=>Q2c N v k l) (Qib v k l):=by
 refine Ar ?_;unfold Q2c Qib;rw [Qa];refine Aw (fun g => .ret (by rw [Af (Aa g)])) (fun g=>?_);rw [Ae (Ac g)];exact Au (Q9d _ hl.len hl.txt) (.ret rfl)
theorem Q4r {k:Int} {l:List Qb} (hl:OkP l):(Qib v k l).length≤4200100:=by
 unfold Qib;split
 ·exact Lm _
 exact Qdk hl.len
theorem Qdq {s:List UInt8} (hs:s.length≤65535):Tot (fun N=>W0 N s) (Qgx s):=by
 refine Ar ?_;unfold W0;exact Au (Qld s hs) (.ret rfl)
theorem Qcq {s:List UInt8} (hs:s.length≤65535):Tot (fun N=>Qz N s) (Qgx s):=by
 refine Ar ?_;unfold Qz;exact Au (Qmi s hs) (.ret rfl)
theorem Z8w:Tot (fun N=>Q2a N v p) (Z3r v p):=by
 refine Ar ?_;unfold Q2a Z3r;refine Au (Z8z h) ?_;rw [Qq];refine Aw (fun g => .ret (by rw [Ae (Aa g)])) (fun g=>?_);have h0:Qti v p=0:=Decidable.byContradiction fun x=>Ac g x;rw [Af h0];have hF:=Z0k h0;obtain ⟨hv,hk,_,hz,h2,h1⟩:=hF
 haveI:Kd p.Kind:=⟨by omega,by omega⟩
 haveI:Kd 16:=⟨by decide,by decide⟩
 have l1:=h.client;have l2:=h.user;have l3:=h.pass;have l4:=h.wtopic;have l5:=h.wpayload;have b1:=fun n=>Yv 1 n;have b2:=fun n=>Yv 2 n;have t1:=Q4r h (v:=v) (k:=p.Kind) h.props;have t2:=Q4r h (v:=v) (k:=16) h.wprops;have d1:=Yu p.Client;have d2:=Yu p.User;have d3:=Yu p.Pass;have d4:=Yu p.Will.Topic;have d5:=Yu p.Will.Payload;refine Au (Z0u h hv h.props) ?_;rw [Qa];refine Aw (fun gk=>?_) (fun gk=>?_)
 ·have gk':=Aa gk
  have hc:0≤p.Code∧p.Code<256:=by
   by_cases h4:v=4
   ·have:=(h2 gk').1 h4;omega
   exact Qof h ((h2 gk').2.1 h4)
  have hp:=Q12 p.Code (by omega) 1 (by omega);refine Aw (fun gs=>?_) (fun gs=>?_)
  all_goals refine Au hp ?_
  all_goals refine Au (.of fun N=>Qza N _ (by show 3≤10;omega) (by simp only [Mc,Mr,Le,Li,Ly,b1];omega)) (.ret ?_)
  all_goals unfold Qhu;rw [gk,gs];simp only [Ai,Ah,Mc,Mr,Lu]
 have gk':=Ac gk;have hk1:p.Kind=1:=hk.resolve_right gk';have hr:=(h1 gk').2;have hg:=Z0i hr.2;refine Au (Q12 v (by omega) 1 (by omega)) ?_;refine Au (Z1r hk1 hr.2) ?_;refine Au (Q12 (Qu0 p) (by omega) 1 (by omega)) ?_;refine Au (Q12 p.KeepAlive (by omega) 2 (by omega)) ?_;refine Au (Qdq h (by omega)) ?_;refine Au (.of fun N=>Qza N _ (by show 6≤10;omega) (by simp only [Mc,Mr,Le,Li,Ly,b1,b2];omega)) ?_;refine Aw (fun gw=>?_) (fun gw=>?_)
 ·refine Au (Z0u h hv h.wprops) ?_;refine Au (Qdq h (s:=p.Will.Topic) (by omega)) ?_;refine Au (Qdq h (s:=p.Will.Payload) (by omega)) ?_;refine Au (.of fun N=>Qza N _ (by show 4≤10;omega) (by simp only [Mc,Mr,Le,Li,Ly,b1,b2];omega)) ?_;refine Aw (fun gu=>?_) (fun gu=>?_)
  ·refine Au (Qdq h (s:=p.User) (by omega)) ?_;refine Au (.of fun N=>Qza N _ (by show 2≤10;omega) (by simp only [Mc,Mr,Le,Li,Ly,b1,b2];omega)) ?_;refine Aw (fun gp=>?_) (fun gp => .ret ?_)
   ·refine Au (Qdq h (s:=p.Pass) (by omega)) ?_;refine Au (.of fun N=>Qza N _ (by show 2≤10;omega) (by simp only [Mc,Mr,Le,Li,Ly,b1,b2];omega)) (.ret ?_);unfold Qhu;rw [gk,gw,gu,gp];simp only [Ai,Ah,Mc,Mr,Lu,Lq]
   unfold Qhu;rw [gk,gw,gu,gp];simp only [Ai,Ah,Mc,Mr,Lu,Lq]
  refine Aw (fun gp=>?_) (fun gp => .ret ?_)
  ·refine Au (Qdq h (s:=p.Pass) (by omega)) ?_;refine Au (.of fun N=>Qza N _ (by show 2≤10;omega) (by simp only [Mc,Mr,Le,Li,Ly,b1,b2];omega)) (.ret ?_);unfold Qhu;rw [gk,gw,gu,gp];simp only [Ai,Ah,Mc,Mr,Lu,Lq,My]
  unfold Qhu;rw [gk,gw,gu,gp];simp only [Ai,Ah,Mc,Mr,Lu,Lq]
 refine Aw (fun gu=>?_) (fun gu=>?_)
 ·refine Au (Qdq h (s:=p.User) (by omega)) ?_;refine Au (.of fun N=>Qza N _ (by show 2≤10;omega) (by simp only [Mc,Mr,Le,Li,Ly,b1,b2];omega)) ?_;refine Aw (fun gp=>?_) (fun gp => .ret ?_)
  ·refine Au (Qdq h (s:=p.Pass) (by omega)) ?_;refine Au (.of fun N=>Qza N _ (by show 2≤10;omega) (by simp only [Mc,Mr,Le,Li,Ly,b1,b2];omega)) (.ret ?_);unfold Qhu;rw [gk,gw,gu,gp];simp only [Ai,Ah,Mc,Mr,Lu,Lq,My]
  unfold Qhu;rw [gk,gw,gu,gp];simp only [Ai,Ah,Mc,Mr,Lu,Lq,My]
 refine Aw (fun gp=>?_) (fun gp => .ret ?_)
 ·refine Au (Qdq h (s:=p.Pass) (by omega)) ?_;refine Au (.of fun N=>Qza N _ (by show 2≤10;omega) (by simp only [Mc,Mr,Le,Li,Ly,b1,b2];omega)) (.ret ?_);unfold Qhu;rw [gk,gw,gu,gp];simp only [Ai,Ah,Mc,Mr,Lu,Lq,My]
 unfold Qhu;rw [gk,gw,gu,gp];simp only [Ai,Ah,Mc,Mr,Lu,Lq,My]
theorem Z8i:Tot (fun N=>Gf N v p) (Z3r v p):=by
 refine Ar ?_;unfold Gf Z3r;refine Au (Z4k h) ?_;rw [Qq];refine Aw (fun g => .ret (by rw [Ae (Aa g)])) (fun g=>?_);have h0:Qti v p=0:=Decidable.byContradiction fun x=>Ac g x;rw [Af h0];have hF:=Z0k h0;obtain ⟨hv,hk,_,hz,h2,h1⟩:=hF
 haveI:Kd p.Kind:=⟨by omega,by omega⟩
 haveI:Kd 16:=⟨by decide,by decide⟩
 have l1:=h.client;have l2:=h.user;have l3:=h.pass;have l4:=h.wtopic;have l5:=h.wpayload;have b1:=fun n=>Yv 1 n;have b2:=fun n=>Yv 2 n;have t1:=Q4r h (v:=v) (k:=p.Kind) h.props;have t2:=Q4r h (v:=v) (k:=16) h.wprops;have d1:=Yu p.Client;have d2:=Yu p.User;have d3:=Yu p.Pass;have d4:=Yu p.Will.Topic;have d5:=Yu p.Will.Payload;have tl:∀ (k:Int) [Kd k] (l:List Qb),OkP l→Tot (fun N=>Z0 N v k l) (Qib v k l):=fun k _ l hl=>Qql hv l hl.len hl.txt;rw [Qa];refine Aw (fun gk=>?_) (fun gk=>?_)
 ·have gk':=Aa gk
  have hc:0≤p.Code∧p.Code<256:=by
   by_cases h4:v=4
   ·have:=(h2 gk').1 h4;omega
   exact Qof h ((h2 gk').2.1 h4)
  refine Au (v:=cond p.Session 1 0) (.of fun N=>by unfold X5;cases p.Session<;>rfl) ?_;refine Au (tl _ _ h.props) ?_;refine Ax (by rw [Ln];simp only [Li,Ly];omega) (.ret ?_);have e:=Qvz p.Code hc;unfold Qhu;rw [gk,← e];cases p.Session<;>rfl
 have gk':=Ac gk;have hk1:p.Kind=1:=hk.resolve_right gk';have hr:=(h1 gk').2;have hg:=Z0i hr.2;have e1:=Qvz v (by omega);have e2:=Qvz (Qu0 p) hg
 have ev : [UInt8.ofNat (wrap .u8 v).toNat,UInt8.ofNat (wrap .u8 (Qu0 p)).toNat]=Qb4 v.toNat 1++Qb4 (Qu0 p).toNat 1:=by rw [← e1,← e2];rfl
 have hn:Tot (fun N=>Qz N [77,81,84,84]) ([0,4,77,81,84,84]:List UInt8):=Qcq h (s := [77,81,84,84]) (by decide);refine Au hn ?_;refine Au (.of fun N=>Z1g hk1 hr.2 N) ?_;rw [ev];have ck:∀ {a b:List UInt8} {f:Nat→Option (List UInt8×Int)} {Q:List UInt8×Int→Prop},a.length≤90000000→b.length≤9000000→TotP f Q→TotP (fun N=>cond (Nat.ble (a.length+b.length) 4611686018427387904) (f N) none) Q:=fun h1 h2 hf=>Ax (by rw [Ln];omega) hf;refine ck (by decide) (by simp only [Le,b1];omega) ?_;refine Au (Q30 p.KeepAlive (by omega) 2 (by omega)) ?_;refine ck (by simp only [Le,Li,Ly,b1,b2];omega) (by simp only [b2];omega) ?_;refine Au (tl _ _ h.props) ?_;refine ck (by simp only [Le,Li,Ly,b1,b2];omega) (by omega) ?_;refine Au (Qcq h (by omega)) ?_;refine ck (by simp only [Le,Li,Ly,b1,b2];omega) (by omega) ?_;refine Aw (fun gw=>?_) (fun gw=>?_)
 ·refine Au (tl _ _ h.wprops) ?_;refine ck (by simp only [Le,Li,Ly,b1,b2];omega) (by omega) ?_;refine Au (Qcq h (s:=p.Will.Topic) (by omega)) ?_;refine ck (by simp only [Le,Li,Ly,b1,b2];omega) (by omega) ?_;refine Au (Qcq h (s:=p.Will.Payload) (by omega)) ?_;refine ck (by simp only [Le,Li,Ly,b1,b2];omega) (by omega) ?_;refine Aw (fun gu=>?_) (fun gu=>?_)
  ·refine Au (Qcq h (s:=p.User) (by omega)) ?_;refine ck (by simp only [Le,Li,Ly,b1,b2];omega) (by omega) ?_;refine Aw (fun gp=>?_) (fun gp => .ret ?_)
   ·refine Au (Qcq h (s:=p.Pass) (by omega)) ?_;refine ck (by simp only [Le,Li,Ly,b1,b2];omega) (by omega) (.ret ?_);unfold Qhu;rw [gk,gw,gu,gp];simp only [Ai,Ah,Lu,Lq]
   unfold Qhu;rw [gk,gw,gu,gp];simp only [Ai,Ah,Lu,Lq]
  refine Aw (fun gp=>?_) (fun gp => .ret ?_)
  ·refine Au (Qcq h (s:=p.Pass) (by omega)) ?_;refine ck (by simp only [Le,Li,Ly,b1,b2];omega) (by omega) (.ret ?_);unfold Qhu;rw [gk,gw,gu,gp];simp only [Ai,Ah,Lu,Lq,My]
  unfold Qhu;rw [gk,gw,gu,gp];simp only [Ai,Ah,Lu,Lq]
 refine Aw (fun gu=>?_) (fun gu=>?_)
 ·refine Au (Qcq h (s:=p.User) (by omega)) ?_;refine ck (by simp only [Le,Li,Ly,b1,b2];omega) (by omega) ?_;refine Aw (fun gp=>?_) (fun gp => .ret ?_)
  ·refine Au (Qcq h (s:=p.Pass) (by omega)) ?_;refine ck (by simp only [Le,Li,Ly,b1,b2];omega) (by omega) (.ret ?_);unfold Qhu;rw [gk,gw,gu,gp];simp only [Ai,Ah,Lu,Lq,My]
  unfold Qhu;rw [gk,gw,gu,gp];simp only [Ai,Ah,Lu,Lq,My]
 refine Aw (fun gp=>?_) (fun gp => .ret ?_)
 ·refine Au (Qcq h (s:=p.Pass) (by omega)) ?_;refine ck (by simp only [Le,Li,Ly,b1,b2];omega) (by omega) (.ret ?_);unfold Qhu;rw [gk,gw,gu,gp];simp only [Ai,Ah,Lu,Lq,My]
 unfold Qhu;rw [gk,gw,gu,gp];simp only [Ai,Ah,Lu,Lq,My]
end
end
end Go.Av
namespace Go.Av
noncomputable section
def Z75 (p:Q1):Q1:=⟨p.Kind,p.Dup,p.Retain,p.QoS,p.ID,p.Topic,p.Payload,false,0,[],false,[],false,[],false,(⟨[],[],0,false,[]⟩:Xn),false,0,[],[],p.Props⟩
def Qri (v:Int) (p:Q1):Prop:=(v=4∨v=5)∧p.Kind=3
def Qdp (p:Q1):Prop:=(0≤p.QoS∧p.QoS≤2)∧(p.QoS=0→p.Dup=false)
instance (p:Q1):Decidable (Qdp p):=by unfold Qdp;infer_instance
def Qtg (v:Int) (p:Q1):Prop:=p=Z75 p∧(v=4→p.Props = [])∧(p.QoS=0→p.ID=0)∧(p.QoS≠0→1≤p.ID∧p.ID≤65535)
def Qqr (v:Int) (p:Q1):Prop:=Q04 p.Topic=true∨(v=5∧Qfn p.Props 35=true∧p.Topic = [])
open Classical in
noncomputable def Qii (v:Int) (p:Q1):Int:=if Qri v p then (if Qdp p then (if Qtg v p then (if Qqr v p then Q6x 3 [] p.Props else 10) else 2) else 7) else 2
def Qz9 (p:Q1):Int:=2 * p.QoS+(if p.Retain then 1 else 0)+(if p.Dup then 8 else 0)
theorem Zt0 (l:List Qb) (hl:l.length≤30) (id:Int):TotP (fun N=>Q9e N l id) (fun v=>v.2=Qfn l id):=by
 unfold Q9e;refine Q5n (L:=fun N n i=>Q24 N l id n i) l.length (fun i=>∀ j (h:j<l.length),j<i→l[j].ID≠id) (fun i hi hj=>?_) (fun hj=>?_) (fun j _ hj=>by omega)
 ·show Stp _ _ _ (fun N n=>cond (Q3 .lss (i:Int) ((Q6 Qb.cells l).length:Int)) _ _);rw [Q4,Qd];refine AE (fun _=>?_) (fun h=>by have:=Ac h;omega);refine AD (Z2 hi) ?_;rw [Qa];refine AE (fun h=>?_) (fun h=>?_)
  ·exact AA (Nr.2 ⟨_,Md hi,h⟩).symm
  rw [w64 _ (by omega)];refine AB (L:=fun N n i=>Q24 N l id n i) _ ⟨by omega,fun j hj' hji=>?_⟩
  by_cases e:j=i
  ·subst e;exact Ac h
  exact hj j hj' (by omega)
 show Stp _ _ _ (fun N n=>cond (Q3 .lss (l.length:Int) ((Q6 Qb.cells l).length:Int)) _ _);rw [Q4,Qd];refine AE (fun h=>by have:=Aa h;omega) (fun _=>AA ?_)
 cases hc:Qfn l id with
 | false=>rfl
 | true=>
  obtain ⟨p,hp,e⟩:=Nr.1 hc;obtain ⟨j,hj',rfl⟩:=Nh hp;exact absurd (Aa e) (hj j hj' hj')
instance:Kd 3:=⟨by decide,by decide⟩
section
variable {v:Int} {p:Q1} (h:Qd0 p)
theorem Qna (a:¬ Qri v p):Qii v p=2:=by unfold Qii;rw [Ae a]
theorem Qs2 (a:Qri v p) (b:¬ Qdp p):Qii v p=7:=by unfold Qii;rw [Af a,Ae b]
theorem Qqz (a:Qri v p) (b:Qdp p) (c:¬ Qtg v p):Qii v p=2:=by unfold Qii;rw [Af a,Af b,Ae c]
theorem Qqq (a:Qri v p) (b:Qdp p) (c:Qtg v p) (d:¬ Qqr v p):Qii v p=10:=by unfold Qii;rw [Af a,Af b,Af c,Ae d]
theorem Qiu (a:Qri v p) (b:Qdp p) (c:Qtg v p) (d:Qqr v p):Qii v p=Q6x 3 [] p.Props:=by unfold Qii;rw [Af a,Af b,Af c,Af d]
theorem Z30 (d r:Bool) (q:Int) (hq:q=0∨q=1∨q=2):cond r (cond d (orI .i64 (orI .i64 (wrap .i64 (q * 2)) 1) 8) (orI .i64 (wrap .i64 (q * 2)) 1)) (cond d (orI .i64 (wrap .i64 (q * 2)) 8) (wrap .i64 (q * 2)))=2 * q+(if r then 1 else 0)+(if d then 8 else 0):=by
 rcases hq with rfl | rfl | rfl<;>cases d<;>cases r<;>decide
theorem Qwq (a:Qri v p):Tot (fun N=>Q0u N v p) (if Qdp p then (Qz9 p,0) else (0,7)):=by
 classical
 refine Ar ?_;unfold Q0u;refine Au (v:=true) (.of fun N=>(Qed N v).trans (by rw [Ad a.1])) ?_;refine Aw (fun g=>nomatch g) (fun _=>?_);rw [a.2];refine Au (v:=true) (.of fun N=>by rcases a.1 with e | e<;>rw [e]<;>rfl) ?_;refine Aw (fun g=>nomatch g) (fun _=>?_);refine Aw (fun g=>nomatch g) (fun _=>?_);have no:¬ Qdp p→TotP (fun _=>some ((0:Int),(7:Int))) (· = if Qdp p then (Qz9 p,0) else (0,7)):=fun x => .ret (by rw [Ae x]);rw [Qd,Qy,Qa];refine Aw (fun g=>no fun x=>by have:=Aa g;have:=x.1;omega) (fun g1=>?_);refine Aw (fun g=>no fun x=>by have:=Aa g;have:=x.1;omega) (fun g2=>?_);have g1:=Ac g1;have g2:=Ac g2
 have hq:p.QoS=0∨p.QoS=1∨p.QoS=2:=by omega
 have fe:=Z30 p.Dup p.Retain p.QoS hq;refine Aw (fun g3=>?_) (fun g3=>?_)
 ·have g3:=Aa g3;refine Aw (fun gd=>no fun x=>by rw [x.2 g3] at gd;cases gd) (fun gd=>?_);rw [Af (show Qdp p from ⟨by omega,fun _=>gd⟩)];unfold Qz9;rw [← fe,gd];exact Aw (fun g => .ret (by rw [g];rfl)) (fun g => .ret (by rw [g];rfl))
 rw [Af (show Qdp p from ⟨by omega,fun x=>absurd x (Ac g3)⟩)];unfold Qz9;rw [← fe];exact Aw (fun g=>Aw (fun g' => .ret (by rw [g,g'];rfl)) (fun g' => .ret (by rw [g,g'];rfl))) (fun g=>Aw (fun g' => .ret (by rw [g,g'];rfl)) (fun g' => .ret (by rw [g,g'];rfl)))
theorem Z3a (d r:Bool) (q:Int) (hq:q=0∨q=1∨q=2):cond d (cond r (wrap .i64 ((wrap .i64 ((wrap .i64 (2 * q))+8))+1)) (wrap .i64 ((wrap .i64 (2 * q))+8))) (cond r (wrap .i64 ((wrap .i64 (2 * q))+1)) (wrap .i64 (2 * q)))=2 * q+(if r then 1 else 0)+(if d then 8 else 0):=by
 rcases hq with rfl | rfl | rfl<;>cases d<;>cases r<;>decide
theorem Qv2 (a:Qri v p):Tot (fun N=>Xo N v p) (if Qdp p then (Qz9 p,0) else (0,7)):=by
 classical
 refine Ar ?_;unfold Xo;refine Au (v:=true) (.of fun N=>(Qed N v).trans (by rw [Ad a.1])) ?_;refine Aw (fun g=>nomatch g) (fun _=>?_);rw [a.2];refine Au (v:=true) (.of fun N=>by rcases a.1 with e | e<;>rw [e]<;>rfl) ?_;refine Aw (fun g=>nomatch g) (fun _=>?_);refine Aw (fun g=>nomatch g) (fun _=>?_);refine Aw (fun g=>nomatch g) (fun _=>?_);refine Aw (fun g=>nomatch g) (fun _=>?_);refine Aw (fun _=>?_) (fun g=>nomatch g);have no:¬ Qdp p→TotP (fun _=>some ((0:Int),(7:Int))) (· = if Qdp p then (Qz9 p,0) else (0,7)):=fun x => .ret (by rw [Ae x]);rw [Qd,Qy,Qa];refine Aw (fun g=>no fun x=>by have:=Aa g;have:=x.1;omega) (fun g1=>?_);refine Aw (fun g=>no fun x=>by have:=Aa g;have:=x.1;omega) (fun g2=>?_);have g1:=Ac g1;have g2:=Ac g2
 have hq:p.QoS=0∨p.QoS=1∨p.QoS=2:=by omega
 have fe:=Z3a p.Dup p.Retain p.QoS hq;refine Aw (fun gd=>?_) (fun gd=>?_)
 ·refine Aw (fun g3=>no fun x=>by rw [x.2 (Aa g3)] at gd;cases gd) (fun g3=>?_);rw [Af (show Qdp p from ⟨by omega,fun x=>absurd x (Ac g3)⟩)];unfold Qz9;rw [← fe,gd];exact Aw (fun g => .ret (by rw [g];rfl)) (fun g => .ret (by rw [g];rfl))
 rw [Af (show Qdp p from ⟨by omega,fun _=>gd⟩)];unfold Qz9;rw [← fe,gd];exact Aw (fun g => .ret (by rw [g];rfl)) (fun g => .ret (by rw [g];rfl))
include h
theorem Qz3 (a:v=4∨v=5) (b:Qdp p):TotP (fun N=>Q0k N v p) (fun c=>c=true↔Qtg v p):=by
 have no:¬ Qtg v p→TotP (fun _=>some false) (fun c=>c=true↔Qtg v p):=fun x => .ret ⟨fun y=>(nomatch y),fun y=>absurd y x⟩;unfold Q0k;refine At (Q1p p (Z75 p) h.l) (fun c hc=>?_);refine Aw (fun g=>no fun x=>by rw [hc.2 x.1] at g;cases g) (fun g=>?_);have hu:=hc.1 (bP g)
 have tail:(v=4→p.Props = [])→TotP (fun _=>cond (Q3 .eql p.QoS 0) (some (Q3 .eql p.ID 0)) (cond (Q3 .gtr p.ID 0) (some (Q3 .lss p.ID 65536)) (some false))) (fun c=>c=true↔Qtg v p):=fun hz=>by
  rw [Qa,Qa,Qy,Qd];refine Aw (fun g1 => .ret ?_) (fun g1=>?_)
  ·have g1:=Aa g1;exact ⟨fun y=>⟨hu,hz,fun _=>Aa y,fun x=>absurd g1 x⟩,fun x=>Ad (x.2.2.1 g1)⟩
  have g1:=Ac g1;refine Aw (fun g2 => .ret ?_) (fun g2=>no fun x=>by have:=Ac g2;have:=x.2.2.2 g1;omega);have g2:=Aa g2;exact ⟨fun y=>⟨hu,hz,fun x=>absurd x g1,fun _=>by have:=Aa y;omega⟩,fun x=>Ad (by have:=x.2.2.2 g1;omega)⟩
 refine Aw (fun g4=>?_) (fun g4=>?_)
 ·rw [Qa] at g4;have g4:=Aa g4;rw [Qy,Q4];refine Aw (fun g5=>no fun x=>by have:=Aa g5;rw [x.2.1 g4] at this;exact absurd this (by decide)) (fun g5=>?_);exact tail fun _=>Mi.1 (by have:=Ac g5;omega)
 rw [Qa] at g4;exact tail fun x=>absurd x (Ac g4)
theorem Z24:TotP (fun N=>Q1k N v p) (fun c=>c=true↔Qqr v p):=by
 unfold Q1k;refine At (V:=fun w=>w.2=Qfn p.Props 35) ?_ (fun w hw=>?_)
 ·unfold Q52;exact At (Zt0 _ h.props.len 35) (fun w hw => .ret hw)
 refine Au (Qf8 p.Topic (by have:=h.topic;have:=ml2;omega)) ?_;rw [Qa,Gq];refine Aw (fun g => .ret ⟨fun _ => .inl g,fun _=>rfl⟩) (fun g=>?_);have no:¬ Qqr v p→TotP (fun _=>some false) (fun c=>c=true↔Qqr v p):=fun x => .ret ⟨fun y=>(nomatch y),fun y=>absurd y x⟩;refine Aw (fun g5=>?_) (fun g5=>no fun x=>?_)
 ·refine Aw (fun g6 => .ret ?_) (fun g6=>no fun x=>?_)
  ·rw [hw] at g6;exact ⟨fun y => .inr ⟨Aa g5,g6,Aa y⟩,fun x=>x.elim (fun y=>by rw [y] at g;cases g) fun y=>Ad y.2.2⟩
  rw [hw] at g6
  rcases x with x | x
  ·rw [x] at g;cases g
  rw [x.2.1] at g6;cases g6
 rcases x with x | x
 ·rw [x] at g;cases g
 exact Ac g5 x.1
theorem Z8c:Tot (fun N=>Q2o N v p) (Qii v p):=by
 classical
 refine Ar ?_;unfold Q2o;refine Au (v:=decide (v=4∨v=5)) (.of fun N=>Qed N v) ?_;refine Aw (fun g=>?_) (fun gv=>?_)
 ·have gv:=Ac (bN g);refine Au (v:=2) (.of fun _=>rfl) ?_;exact Aw (fun _ => .ret (Qna fun x=>gv x.1).symm) (fun g=>nomatch g)
 have gv:=Aa (bP gv);refine Au (v:=if p.Kind=3 then 0 else 2) (.of fun N=>?_) ?_
 ·unfold Jd;rw [Qq]
  by_cases hk:p.Kind=3
  ·rw [Af hk,Ab (fun x=>x hk)];rfl
  rw [Ae hk,Ad hk];rfl
 by_cases hk:p.Kind=3
 rotate_left
 ·rw [Ae hk];exact Aw (fun _ => .ret (Qna fun x=>hk x.2).symm) (fun g=>nomatch g)
 rw [Af hk];have a:Qri v p:=⟨gv,hk⟩;refine Aw (fun g=>nomatch g) (fun _=>?_);refine Au (Qwq a) ?_
 by_cases b:Qdp p
 rotate_left
 ·rw [Ae b];exact Aw (fun _ => .ret (Qs2 a b).symm) (fun g=>nomatch g)
 rw [Af b];refine Aw (fun g=>nomatch g) (fun _=>?_);refine At (Qz3 h gv b) (fun c hc=>?_)
 cases c with
 | false=>
  refine Au (v:=2) (.of fun _=>rfl) ?_;exact Aw (fun _ => .ret (Qqz a b fun x=>by have:=hc.2 x;cases this).symm) (fun g=>nomatch g)
 | true=>
  have hc:=hc.1 rfl;refine Au (v:=0) (.of fun _=>rfl) ?_;refine Aw (fun g=>nomatch g) (fun _=>?_);refine At (Z24 h) (fun d hd=>?_)
  cases d with
  | false=>
   refine Au (v:=10) (.of fun _=>rfl) ?_;exact Aw (fun _ => .ret (Qqq a b hc fun x=>by have:=hd.2 x;cases this).symm) (fun g=>nomatch g)
  | true=>
   have hd:=hd.1 rfl;refine Au (v:=0) (.of fun _=>rfl) ?_;refine Aw (fun g=>nomatch g) (fun _=>?_);refine Au (Q91 h 3) ?_;rw [Qiu a b hc hd,Qq];exact Aw (fun _ => .ret rfl) (fun g => .ret (Decidable.byContradiction fun x=>Ac g fun y=>x y.symm))
end
end
end Go.Av
namespace Go.Av
noncomputable section
def Z3t (v:Int) (p:Q1):List UInt8:=Qgx p.Topic++((if p.QoS=0 then [] else Qb4 p.ID.toNat 2)++(Qib v 3 p.Props++p.Payload))
noncomputable def Z3q (v:Int) (p:Q1):List UInt8×Int:=if Qii v p=0 then (Z3t v p,0) else ([],Qii v p)
section
variable {v:Int} {p:Q1} (h:Qd0 p)
include h
theorem Z4v (a:Qri v p) (b:Qdp p) (c:Qtg v p):TotP (fun N=>(Z4 N p).bind fun v18=>(Qr N p.Topic).bind fun v20=>cond (!v20) (cond (Q0p .eql p.Topic []) (cond v18.2 (cond (!(Q3 .eql v 5)) (some (10:Int)) ((Q5 N v 3 p.Props).bind fun v26=>some v26)) (some 10)) (some 10)) ((Q5 N v 3 p.Props).bind fun v28=>some v28)) (· = Qii v p):=by
 have no:¬ Qqr v p→TotP (fun _=>some (10:Int)) (· = Qii v p):=fun x => .ret (Qqq a b c x).symm
 have yes:Qqr v p→TotP (fun N=>(Q5 N v 3 p.Props).bind fun v28=>some v28) (· = Qii v p):=fun x=>by
  rw [Qiu a b c x];exact Au (Q6u h c.2.1) (.ret rfl)
 refine At (V:=fun w=>w.2=Qfn p.Props 35) ?_ (fun w hw=>?_)
 ·unfold Z4;exact At (Qrx _ h.props.len 35) (fun w hw => .ret hw)
 refine Au (Qfa p.Topic (by have:=h.topic;have:=ml2;omega)) ?_;rw [Qa,Gq];refine Aw (fun g=>?_) (fun g=>yes (.inl (bP g)));have g:=bN g;refine Aw (fun g1=>?_) (fun g1=>no fun x=>?_)
 ·refine Aw (fun g2=>?_) (fun g2=>no fun x=>?_)
  ·refine Aw (fun g3=>no fun x=>?_) (fun g3=>yes (.inr ⟨Aa (bP g3),by rw [← hw];exact g2,Aa g1⟩))
   rcases x with x | x
   ·rw [x] at g;cases g
   exact Ac (bN g3) x.1
  rcases x with x | x
  ·rw [x] at g;cases g
  rw [hw,x.2.1] at g2;cases g2
 rcases x with x | x
 ·rw [x] at g;cases g
 exact Ac g1 x.2.2
theorem Z3y:Tot (fun N=>U0 N v p) (Qii v p):=by
 refine Ar ?_;unfold U0;refine Au (.of fun N=>Qed N v) ?_;refine Aw (fun g => .ret (Qna fun x=>Ac (bN g) x.1).symm) (fun gv=>?_);have gv:=Aa (bP gv);rw [Qq];refine Aw (fun g => .ret (Qna fun x=>Aa g x.2).symm) (fun gk=>?_);have a:Qri v p:=⟨gv,Decidable.byContradiction fun x=>Ac gk x⟩;refine Au (Qv2 a) ?_
 by_cases b:Qdp p
 rotate_left
 ·rw [Ae b];exact Aw (fun _ => .ret (Qs2 a b).symm) (fun g=>nomatch g)
 rw [Af b];refine Aw (fun g=>nomatch g) (fun _=>?_);have no:¬ Qtg v p→TotP (fun _=>some (2:Int)) (· = Qii v p):=fun x => .ret (Qqz a b x).symm;refine At (Jj p (Z75 p) h.l) (fun c hc=>?_);refine Aw (fun g=>no fun x=>by rw [hc.2 x.1] at g;cases g) (fun g=>?_);have hu:=hc.1 (bP g)
 have k4:((p.QoS=0→p.ID=0)∧(p.QoS≠0→1≤p.ID∧p.ID≤65535))→TotP (fun N=>cond (Q3 .eql v 4) (cond (Q3 .gtr ((Q6 Qb.cells p.Props).length:Int) 0) (some (2:Int)) ((Z4 N p).bind fun v18=>(Qr N p.Topic).bind fun v20=>cond (!v20) (cond (Q0p .eql p.Topic []) (cond v18.2 (cond (!(Q3 .eql v 5)) (some (10:Int)) ((Q5 N v 3 p.Props).bind fun v26=>some v26)) (some 10)) (some 10)) ((Q5 N v 3 p.Props).bind fun v28=>some v28)))
   ((Z4 N p).bind fun v18=>(Qr N p.Topic).bind fun v20=>cond (!v20) (cond (Q0p .eql p.Topic []) (cond v18.2 (cond (!(Q3 .eql v 5)) (some (10:Int)) ((Q5 N v 3 p.Props).bind fun v26=>some v26)) (some 10)) (some 10)) ((Q5 N v 3 p.Props).bind fun v28=>some v28))) (· = Qii v p):=fun hid=>by
  refine Aw (fun g4=>?_) (fun g4=>?_)
  ·rw [Qa] at g4;have g4:=Aa g4;rw [Qy,Q4];refine Aw (fun g5=>no fun x=>by have:=Aa g5;rw [x.2.1 g4] at this;exact absurd this (by decide)) (fun g5=>?_);have hz:p.Props = []:=Mi.1 (by have:=Ac g5;omega);exact Z4v h a b ⟨hu,fun _=>hz,hid.1,hid.2⟩
  rw [Qa] at g4;exact Z4v h a b ⟨hu,fun x=>absurd x (Ac g4),hid.1,hid.2⟩
 have hq:=b.1;refine Aw (fun g0=>?_) (fun g0=>?_)
 ·rw [Qa] at g0;have g0:=Aa g0;refine Aw (fun g1=>no fun x=>?_) (fun g1=>?_)
  ·rw [Qq] at g1;exact Aa g1 (x.2.2.1 g0)
  rw [Qq] at g1;have g1:p.ID=0:=Decidable.byContradiction fun x=>Ac g1 x;refine Aw (fun x=>?_) (fun _=>k4 ⟨fun _=>g1,fun x=>absurd g0 x⟩);rw [Qy] at x;exact absurd (Aa x) (by omega)
 rw [Qa] at g0;have g0:=Ac g0;refine Aw (fun _=>?_) (fun x=>?_)
 ·refine Aw (fun g1=>no fun x=>?_) (fun g1=>?_)
  ·rw [Qd] at g1;have:=Aa g1;have:=x.2.2.2 g0;omega
  refine Aw (fun g2=>no fun x=>?_) (fun g2=>?_)
  ·rw [Qy] at g2;have:=Aa g2;have:=x.2.2.2 g0;omega
  rw [Qd] at g1;rw [Qy] at g2;have g1:=Ac g1;have g2:=Ac g2;exact k4 ⟨fun x=>absurd x g0,fun _=>by omega⟩
 rw [Qy] at x;exact absurd (Ac x) (by omega)
theorem Qwh (h0:Qii v p=0):Qri v p∧Qdp p∧Qtg v p∧Qqr v p∧Q6x 3 [] p.Props=0:=by
 refine Mb fun x=>?_
 by_cases a:Qri v p
 ·by_cases b:Qdp p
  ·by_cases c:Qtg v p
   ·by_cases d:Qqr v p
    ·rw [Qiu a b c d] at h0;exact x ⟨a,b,c,d,h0⟩
    rw [Qqq a b c d] at h0;exact absurd h0 (by decide)
   rw [Qqz a b c] at h0;exact absurd h0 (by decide)
  rw [Qs2 a b] at h0;exact absurd h0 (by decide)
 rw [Qna a] at h0;exact absurd h0 (by decide)
theorem Qrb (d:Qqr v p):Vg p.Topic=true:=by
 rcases d with d | d
 ·unfold Q04 at d;simp only [La] at d;exact d.1.2
 rw [d.2.2];unfold Vg;rw [Qgc];simp
theorem Z6i (d:Qqr v p):Tot (fun N=>Gv N p.Topic) (Qgx p.Topic,0):=by
 refine Ar ?_;have ht:=Q96 p.Topic;rw [Qrb h d] at ht;have:=h.topic;unfold Gv;refine Au ht ?_;refine Aw (fun h=>nomatch h) (fun _=>?_);refine At (V:=(· = Qgx p.Topic)) ?_ (fun b hb => .ret (by rw [hb]));unfold G5;exact Au (Q12 (p.Topic.length:Int) (by omega) 2 (by omega)) (Ax (by rw [Ln,Yv];omega) (.ret rfl))
theorem Z5l (d:Qqr v p):Tot (fun N=>W3 N p.Topic) (Qgx p.Topic,0):=by
 refine Ar ?_;have ht:=Q47 p.Topic;rw [Qrb h d] at ht;have:=h.topic;unfold W3;refine Au ht ?_;refine Aw (fun h=>nomatch h) (fun _=>?_);exact Au (Q30 (p.Topic.length:Int) (by omega) 2 (by omega)) (Ax (by rw [Ln,Yv];omega) (.ret rfl))
theorem Z98:Tot (fun N=>Q29 N v p) (Z3q v p):=by
 refine Ar ?_;unfold Q29 Z3q;refine Au (Z8c h) ?_;refine Aw (fun g => .ret (by rw [Qq] at g;rw [Ae (Aa g)])) (fun g=>?_);rw [Qq] at g;have h0:Qii v p=0:=Decidable.byContradiction fun x=>Ac g x;obtain ⟨a,b,c,d,e⟩:=Qwh h h0;rw [Af h0];have l1:=h.topic;have l2:=h.payload;have b2:=Yv 2 p.ID.toNat;have d1:=Yu p.Topic;have t1:=Q4r h (v:=v) (k:=3) h.props;refine Au (Z6i h d) ?_
 have fin:∀ f:List UInt8,f.length≤10000→TotP (fun N=>cond (Q3 .eql v 5) ((Va N p.Kind p.Props).bind fun v11=>cond (Nat.ble (f.length+v11.1.length) 4611686018427387904) (cond (Nat.ble ((f++v11.1).length+p.Payload.length) 4611686018427387904) (some (((f++v11.1)++p.Payload),(0:Int))) none) none) (cond (Nat.ble (f.length+p.Payload.length) 4611686018427387904) (some ((f++p.Payload),0)) none)) (· = (f++(Qib v 3 p.Props++p.Payload),0)):=fun f hf=>by
  rw [Qa,a.2];have w1:=Qdk (k:=3) h.props.len;refine Aw (fun g=>?_) (fun g=>?_)
  ·have g:=Aa g;refine Au (Q9d _ h.props.len h.props.txt) ?_;refine Ax (by rw [Ln];omega) ?_;refine Ax (by rw [Ln,Le];omega) (.ret ?_);unfold Qib;rw [Ae (by omega),Lq]
  have g:=Ac g;refine Ax (by rw [Ln];omega) (.ret ?_);unfold Qib;rw [Af (a.1.resolve_right g),My]
 unfold Z3t;refine Aw (fun g=>?_) (fun g=>?_)
 ·rw [Qq] at g;have g:=Aa g;have hid:=c.2.2.2 g;rw [Ae g];refine Au (Q12 p.ID (by omega) 2 (by omega)) ?_;refine Ax (by rw [Ln];dsimp only;omega) ?_;refine (fin (Qgx p.Topic++Qb4 p.ID.toNat 2) (by rw [Le];omega)).mono fun w hw=>?_;rw [hw,Lq]
 rw [Qq] at g;have g:p.QoS=0:=Decidable.byContradiction fun x=>Ac g x;rw [Af g,My];exact fin (Qgx p.Topic) (by omega)
theorem Z8o:Tot (fun N=>Gm N v p) (Z3q v p):=by
 refine Ar ?_;unfold Gm Z3q;refine Au (Z3y h) ?_;refine Aw (fun g => .ret (by rw [Qq] at g;rw [Ae (Aa g)])) (fun g=>?_);rw [Qq] at g;have h0:Qii v p=0:=Decidable.byContradiction fun x=>Ac g x;obtain ⟨a,b,c,d,e⟩:=Qwh h h0;rw [Af h0];have l1:=h.topic;have l2:=h.payload;have b2:=Yv 2 p.ID.toNat;have d1:=Yu p.Topic;have t1:=Q4r h (v:=v) (k:=3) h.props;have tl:Tot (fun N=>Z0 N v 3 p.Props) (Qib v 3 p.Props):=Qql a.1 _ h.props.len h.props.txt;refine Au (Z5l h d) ?_;unfold Z3t;rw [Qy];have hq:=b.1;refine Aw (fun g=>?_) (fun g=>?_)
 ·have g:=Aa g
  have g':p.QoS≠0:=by omega
  have hid:=c.2.2.2 g';rw [Ae g'];refine Au (Q30 p.ID (by omega) 2 (by omega)) ?_;refine Ax (by rw [Ln];dsimp only;omega) ?_;refine Au tl ?_;refine Ax (by rw [Ln,Le];dsimp only;omega) ?_;refine Ax (by rw [Ln,Le,Le];dsimp only;omega) (.ret ?_);simp only [Lq]
 have g:=Ac g
 have g':p.QoS=0:=by omega
 rw [Af g',My];refine Au tl ?_;refine Ax (by rw [Ln];dsimp only;omega) ?_;refine Ax (by rw [Ln,Le];dsimp only;omega) (.ret ?_);simp only [Lq]
end
end
end Go.Av
namespace Go.Av
noncomputable section
def Wt:List UInt8→List (List UInt8)
 | [] => [[]]
 | c::s=>if c == 47 then []::Wt s else match Wt s with
  | [] => [[c]]
  | a::r=>(c::a)::r
theorem Q21:∀ s:List UInt8,∃ a r,Wt s=a::r
 | []=>⟨[],[],rfl⟩
 | c::s=>by
  obtain ⟨a,r,e⟩:=Q21 s;unfold Wt;rw [e];split
  ·exact ⟨_,_,rfl⟩
  exact ⟨_,_,rfl⟩
theorem Qex (s:List UInt8):Wt (47::s) = []::Wt s:=rfl
theorem Q92 {c:UInt8} (h:(c == 47)=false) {s a:List UInt8} {r:List (List UInt8)} (e:Wt s=a::r):Wt (c::s)=(c::a)::r:=by
 show (if (c == 47)=true then []::Wt s else match Wt s with | [] => [[c]] | a::r=>(c::a)::r)=_;rw [Ae (by rw [h];decide),e]
theorem Qhp:∀ (l:List UInt8) (c:UInt8) (n:Nat),Qat l c n=n+Qat l c 0
 | [],_,n=>rfl
 | b::l,c,n=>by
  have e:∀ m,Qat (b::l) c m=if (b == c)=true then Qat l c (m+1) else Qat l c m:=fun m=>rfl;rw [e n,e 0];split
  ·rw [Qhp l c (n+1),Qhp l c (0+1)];omega
  rw [Qhp l c n]
theorem Qg1:∀ s:List UInt8,(Wt s).length=Qat s 47 0+1
 | []=>rfl
 | c::s=>by
  have ih:=Qg1 s;have e:Qat (c::s) 47 0=if (c == 47)=true then Qat s 47 (0+1) else Qat s 47 0:=rfl;rw [e]
  cases h:(c == 47) with
  | true=>
   rw [Af rfl,Qhp,eq_of_beq h,Qex,Li,ih];omega
  | false=>
   rw [Ae (by decide)];obtain ⟨a,r,e⟩:=Q21 s;rw [Q92 h e,Li];rw [e,Li] at ih;exact ih
theorem Qc1:∀ (t:List UInt8) (i k:Nat),Qdn t 47 i=((i+k:Nat):Int)→Wt t=t.take k::Wt (t.drop (k+1))∧k<t.length∧t=t.take k++47::t.drop (k+1)
 | [],i,k,h=>absurd (show (-1:Int)=_ from h) (by omega)
 | c::t,i,k,h=>by
  have e:Qdn (c::t) 47 i=if (c == 47)=true then (i:Int) else Qdn t 47 (i+1):=rfl;rw [e] at h
  cases hc:(c == 47) with
  | true=>
   rw [hc,Af rfl] at h
   obtain rfl:k=0:=by omega
   rw [eq_of_beq hc];exact ⟨rfl,by simp,rfl⟩
  | false=>
   rw [hc,Ae (by decide)] at h
   rcases Qg2 t 47 (i+1) with h1 | ⟨j,h1,h2,_⟩
   ·rw [h1] at h;omega
   obtain ⟨m,rfl⟩:∃ m,k=m+1:=⟨k - 1,by omega⟩;obtain ⟨i1,i2,i3⟩:=Qc1 t (i+1) m (by rw [h];omega);refine ⟨?_,by simp only [Li];omega,?_⟩
   ·rw [Q92 hc i1];rfl
   show c::t=c::(t.take m++47::t.drop (m+1));rw [← i3]
theorem Qc7:∀ (t:List UInt8) (i:Nat),Qdn t 47 i = -1→Wt t = [t]
 | [],_,_=>rfl
 | c::t,i,h=>by
  have e:Qdn (c::t) 47 i=if (c == 47)=true then (i:Int) else Qdn t 47 (i+1):=rfl;rw [e] at h
  cases hc:(c == 47) with
  | true=>rw [hc,Af rfl] at h;omega
  | false=>
   rw [hc,Ae (by decide)] at h;exact Q92 hc (Qc7 t (i+1) h)
theorem Qkl:∀ (s:List UInt8),∀ x∈Wt s,x.length≤s.length
 | [],x,hx=>by
  have:x = []:=by simpa [Wt] using hx
  rw [this];exact Lj _
 | c::s,x,hx=>by
  have ih:=Qkl s
  cases hc:(c == 47) with
  | true=>
   rw [eq_of_beq hc,Qex] at hx
   rcases Ml.1 hx with rfl | hx
   ·exact Lm _
   exact Nd (ih x hx) (by simp)
  | false=>
   obtain ⟨a,r,e⟩:=Q21 s;rw [Q92 hc e] at hx;rw [e] at ih
   rcases Ml.1 hx with rfl | hx
   ·have:=ih a Ns;simp only [Li];omega
   have:=ih x (Nm _ hx);simp only [Li];omega
def Z81 (s:List UInt8) (c:Nat) (p:List UInt8×Int×List (List UInt8)):Prop:=∃ i:Nat,p.2.1=(i:Int)∧i≤c∧p.2.2.length=c+1∧p.2.2.take i++Wt p.1=Wt s∧p.1.length≤s.length
theorem Z3m (s:List UInt8) (hs:s.length≤70000):Tot (fun N=>Q3j N s) (Wt s):=by
 refine Ar ?_;unfold Q3j;refine Aw (fun h=>by rw [Gq] at h;exact absurd (Aa h) (by simp)) (fun _=>?_);have h47:UInt8.ofNat (Int.toNat 47)=47:=rfl;rw [h47];obtain ⟨c,hcd⟩:∃ c,Qat s 47 0=c:=⟨_,rfl⟩;have hc:=Qln s 47 0;have hsl:=Qg1 s;rw [hcd] at hc hsl ⊢;have e1:wrap .i64 ((s.length:Int)+1)=(s.length:Int)+1:=w64 _ (by omega);have e2:wrap .i64 ((c:Int)+1)=(c:Int)+1:=w64 _ (by omega)
 have hn:(ifB (decide (wrap .i64 ((s.length:Int)+1)<wrap .i64 ((c:Int)+1))) (wrap .i64 ((s.length:Int)+1)) (wrap .i64 ((c:Int)+1)))=((c+1:Nat):Int):=by
  rw [e1,e2,Ab (by omega)];show (c:Int)+1=_;omega
 have hm:wrap .i64 (((c+1:Nat):Int) - 1)=(c:Int):=by rw [w64 _ (by omega)];omega
 rw [hn];refine Ax (by simp only [La,Ag];omega) ?_;refine Qas (L:=Z78 s) (Q:=(· = Wt s)) (Z81 s c) (fun p=>c - p.2.1.toNat) ?_ (s,0,List.replicate (((c+1:Nat):Int).toNat) []) ⟨0,rfl,by omega,by simp,rfl,Lj _⟩
 rintro ⟨t,j,l⟩ ⟨i,hi,hic,hl,hx,ht⟩
 simp only at ht hi hl hx
 subst hi
 have ei:wrap .i64 ((i:Int)+1)=((i+1:Nat):Int):=by rw [w64 _ (by omega)];omega
 have hlen:i+(Wt t).length=c+1:=by
  have:=congrArg List.length hx;rw [Le,Mk,hsl] at this;omega
 have fin:Wt t = [t]→Stp (Z78 s) (fun p=>Z81 s c p∧c - p.2.1.toNat<c - (i:Int).toNat) (· = Wt s)
   (fun (_:Nat) (_:Nat)=>(idx (l:List (List UInt8)) (i:Int)).bind fun _=>cond (decide (0≤(wrap .i64 ((i:Int)+1)))) (cond (Nat.ble 0 ((wrap .i64 ((i:Int)+1)).toNat)&&Nat.ble ((wrap .i64 ((i:Int)+1)).toNat) l.length) (some ((((l:List (List UInt8)).set (Int.toNat (i:Int)) t):List (List UInt8)).take ((wrap .i64 ((i:Int)+1)).toNat))) none) none):=fun e=>by
  rw [ei];refine AD (Z2 (show i<l.length by omega)) ?_;refine AF (by rw [Ag];omega) ?_;refine AF (by simp only [La,Ln,Lt];omega) ?_;refine AA ?_;rw [← hx,e,Lt,Lt,Bs,List.take_set,Ls (by omega),Cg (by rw [Mk];omega)];rfl
 show Stp _ _ _ (fun N n=>cond (Q3 .lss (i:Int) (wrap .i64 ((ifB (decide (wrap .i64 ((s.length:Int)+1)<wrap .i64 ((Qat s (UInt8.ofNat (Int.toNat 47)) 0:Int)+1))) (wrap .i64 ((s.length:Int)+1)) (wrap .i64 ((Qat s (UInt8.ofNat (Int.toNat 47)) 0:Int)+1))) - 1))) _ _);rw [h47,hcd,hn,hm,Qd];refine AE (fun h=>?_) (fun h=>?_)
 rotate_left
 ·have h:=Ac h;refine fin ?_
  rcases Qg2 t 47 0 with h3 | ⟨k,h3,_,h4⟩
  ·exact Qc7 t 0 h3
  have:=(Qc1 t 0 k (by rw [h3];omega)).1;obtain ⟨a,r,e⟩:=Q21 (t.drop (k+1));rw [e] at this;have:=congrArg List.length this;simp only [Li] at this;omega
 have h:=Aa h
 have go:∀ (t' y:List UInt8),Wt t=y::Wt t'→t'.length≤t.length→Stp (Z78 s) (fun p=>Z81 s c p∧c - p.2.1.toNat<c - (i:Int).toNat) (· = Wt s) (fun N n=>Vv N s n t' (wrap .i64 ((i:Int)+1)) (l.set (Int.toNat (i:Int)) y)):=fun t' y h1 h2=>by
  rw [ei];refine AB (L:=Z78 s) (t',((i+1:Nat):Int),l.set (Int.toNat (i:Int)) y) ⟨⟨i+1,rfl,by omega,by rw [Bi];exact hl,?_,Nd h2 ht⟩,by simp only [Lt];omega⟩;show (l.set (Int.toNat (i:Int)) y).take (i+1)++Wt t'=_;rw [← hx,h1,Lt,Bs,List.take_set,Ls (by omega),Cg (by rw [Mk];omega),Lq];rfl
 refine AE (fun h2=>?_) (fun _=>?_)
 ·rw [Gq] at h2;have h2:=Aa h2;refine AD (Z2 (show i<l.length by omega)) ?_;refine AF (by rw [← h2];rfl) ?_;refine go _ _ ?_ (by simp only [Ng,Mk];omega);subst h2;rfl
 refine AC (f:=fun N=>Zn N t 47) (V:=fun v=>v=Qdn t 47 0) ⟨_,rfl,.of fun _=>rfl⟩ (fun v hv=>?_);rw [Qd]
 rcases Qg2 t 47 0 with h3 | ⟨k,h3,_,h4⟩
 ·rw [hv,h3];exact AE (fun _=>fin (Qc7 t 0 h3)) (fun h=>nomatch h)
 rw [hv,h3,Ab (by omega)];have hk:=Qc1 t 0 k (by rw [h3];omega)
 have k0:wrap .i64 ((k:Int)+0)=(k:Int):=by rw [w64 _ (by omega)];omega
 have k1:wrap .i64 ((k:Int)+1)=((k+1:Nat):Int):=by rw [w64 _ (by omega)];omega
 refine AE (fun h=>nomatch h) (fun _=>?_);rw [k0,k1];refine AF (by rw [Ag];omega) ?_;refine AF (by simp only [La,Ln,Lt];omega) ?_;refine AD (Z2 (show i<l.length by omega)) ?_;refine AF (by rw [Ag];omega) ?_;refine AF (by simp only [La,Ln,Lt];omega) ?_;refine go _ _ ?_ (by simp only [Ng,Mk];omega);rw [hk.1,Lt,Lt,Ms (Lj t.length)];rfl
def Z74 (a:List UInt8):List (List UInt8)→List (List UInt8)
 | [] => [a]
 | x::r=>(a++x)::r
theorem Qx3 (s:List UInt8) (hs:s.length≤70000):Tot (fun N=>Vd N s) (Wt s):=by
 refine Ar ?_;unfold Vd
 refine Qas (L:=fun N n (q:Int×Int×List (List UInt8))=>Zt N s n q.1 q.2.1 q.2.2) (Q:=(· = Wt s)) (fun q=>∃ f i:Nat,q.1=(f:Int)∧q.2.1=(i:Int)∧f≤i∧i≤s.length∧q.2.2.length≤i∧q.2.2++Z74 ((s.take i).drop f) (Wt (s.drop i))=Wt s) (fun q=>s.length - q.2.1.toNat) ?_ (0,0,[]) ⟨0,0,rfl,rfl,Lj _,Lm _,Lm _,by
  obtain ⟨a,r,e⟩:=Q21 s;show Z74 [] (Wt s)=Wt s
  rw [e];rfl⟩
 rintro ⟨f',i',l⟩ ⟨f,i,h1,h2,hf,hi,hll,hx⟩
 simp only at h1 h2 hll hx
 subst h1;subst h2;show Stp _ _ _ (fun N n=>cond (Q3 .lss (i:Int) (s.length:Int)) _ _);rw [Qd];refine AE (fun g=>?_) (fun g=>?_)
 ·have g:i<s.length:=by have:=Aa g;omega
  have ei:wrap .i64 ((i:Int)+1)=((i+1:Nat):Int):=by rw [w64 _ (by omega)];omega
  have hd:s.drop i=s[i]::s.drop (i+1):=Mp g
  have hti:(s.take (i+1)).drop f=(s.take i).drop f ++ [s[i]]:=by
   rw [Bs,Ld g,Bq (by rw [Mk];omega)];rfl
  refine AD (Z2 g) ?_;dsimp only;rw [Qa,ei];refine AE (fun h=>?_) (fun h=>?_)
  ·have h:s[i].toNat=47:=by have:=Aa h;omega
   have hb:s[i]=47:=Dg.1 h;refine AF (Ad (by omega)) ?_;refine AF (Ad (by omega)) ?_;rw [Lt,Lt];refine AF (by rw [La,Ln,Ln];omega) ?_;refine AF (by rw [Ln];omega) ?_;refine AB (L:=fun N n (q:Int×Int×List (List UInt8))=>Zt N s n q.1 q.2.1 q.2.2) (_,_,_) ⟨⟨i+1,i+1,rfl,rfl,Lj _,by omega,by simp only [Le,Lw];omega,?_⟩,by simp only [Lt];omega⟩;rw [hd,hb,Qex] at hx;have e0:(s.take (i+1)).drop (i+1) = []:=Ci (by rw [Mk];omega);obtain ⟨a,r,e⟩:=Q21 (s.drop (i+1));show (l ++ [(s.take i).drop f])++Z74 ((s.take (i+1)).drop (i+1)) (Wt (s.drop (i+1)))=_;rw [← hx,e0,e,Lq];show l++((s.take i).drop f::(a::r))=l++(((s.take i).drop f ++ [])::(a::r));rw [Lu]
  have h:¬ s[i].toNat=47:=by have:=Ac h;omega
  have hb:(s[i] == 47)=false:=by
   cases hq:(s[i] == 47) with
   | false=>rfl
   | true=>exact absurd (by rw [eq_of_beq hq];rfl) h
  refine AB (L:=fun N n (q:Int×Int×List (List UInt8))=>Zt N s n q.1 q.2.1 q.2.2) (_,_,_) ⟨⟨f,i+1,rfl,rfl,by omega,by omega,by simp only;omega,?_⟩,by simp only [Lt];omega⟩;obtain ⟨a,r,e⟩:=Q21 (s.drop (i+1));rw [hd,Q92 hb e] at hx;show l++Z74 ((s.take (i+1)).drop f) (Wt (s.drop (i+1)))=_;rw [← hx,e,hti];show l++((((s.take i).drop f ++ [s[i]])++a)::r)=l++(((s.take i).drop f++(s[i]::a))::r);rw [Lq];rfl
 have g:i=s.length:=by have:=Ac g;omega
 subst g;dsimp only;refine AF (Ad (by omega)) ?_;rw [Lt];refine AF (by rw [La,Ln,Ln];omega) ?_;refine AF (by rw [Ln];omega) (AA ?_);rw [← hx,Ma (Lj _)];show _=l ++ [(s.take s.length).drop f ++ []];rw [Lu,Lt]
end
end Go.Av
namespace Go.Av
noncomputable section
theorem Qr9 {s:List UInt8} {p:Nat} (hl:p<s.length) (h:Qgc s p=none):¬ ((Q6n s p).1=0∨Qox s p)∧Qgc s (p+(Q6n s p).2)=none:=by
 rw [Qgc,dif_pos hl] at h
 by_cases c:(Q6n s p).1=0∨Qox s p
 ·rw [Af c] at h;cases h
 rw [Ae c] at h;exact ⟨c,h⟩
theorem Qv3 {s g:List UInt8} {p:Nat} (hA:∀ j,j<g.length→at8 s (p+j)=at8 g j) (hL:p+g.length<s.length) (hE:at8 s (p+g.length)<128) {i:Nat} (hi:i<g.length):Q6n s (p+i)=Q6n g i:=by
 have hG:∀ j,j<g.length→(goes s (p+j)↔goes g j):=fun j hj=>by
  unfold goes;rw [hA j hj];exact ⟨fun x=>⟨hj,x.2⟩,fun x=>⟨by omega,x.2⟩⟩
 have hS:¬ goes s (p+g.length):=fun x=>by have:=x.2.1;omega
 have hN:∀ j,g.length≤j→¬ goes g j:=fun j hj x=>by have:=x.1;omega
 have a0:=hA i hi
 by_cases d1:i+1<g.length
 ·have a1:=hA (i+1) d1;have g1:=hG (i+1) d1
  by_cases d2:i+2<g.length
  ·have a2:=hA (i+2) d2;have g2:=hG (i+2) d2
   by_cases d3:i+3<g.length
   ·have a3:=hA (i+3) d3;have g3:=hG (i+3) d3;unfold Q6n;simp only [Nb,a0,a1,a2,a3,g1,g2,g3]
   have e:p+(i+3)=p+g.length:=by omega
   have n3:=hN (i+3) (by omega)
   have s3:¬ goes s (p+(i+3)):=by rw [e];exact hS
   unfold Q6n;simp only [Nb,a0,a1,a2,g1,g2,n3,s3,false_and,and_false,Al]
  have e:p+(i+2)=p+g.length:=by omega
  have n2:=hN (i+2) (by omega)
  have s2:¬ goes s (p+(i+2)):=by rw [e];exact hS
  unfold Q6n;simp only [Nb,a0,a1,g1,n2,s2,false_and,and_false,Al]
 have e:p+(i+1)=p+g.length:=by omega
 have n1:=hN (i+1) (by omega)
 have s1:¬ goes s (p+(i+1)):=by rw [e];exact hS
 unfold Q6n;simp only [Nb,a0,n1,s1,false_and,and_false,Al]
theorem Qsk {s g:List UInt8} {p:Nat} (hA:∀ j,j<g.length→at8 s (p+j)=at8 g j) (hL:p+g.length<s.length) (hE:at8 s (p+g.length)<128):∀ (m i:Nat),g.length - i=m→i≤g.length→Qgc s (p+i)=none→Qgc g i=none
 | m,i,hm,hi,hb=>by
  by_cases h:i<g.length
  ·have e:=Qv3 hA hL hE h;obtain ⟨c,hb2⟩:=Qr9 (show p+i<s.length by omega) hb;rw [e] at c hb2;have hw:=Qi8 g i h;have c2:¬ ((Q6n g i).1=0∨Qox g i):=fun x=>c (x.elim .inl fun y => .inr (by unfold Qox at y ⊢;rw [e];exact y));rw [Qgc,dif_pos h,Ae c2];exact Qsk hA hL hE (g.length - (i+(Q6n g i).2)) (i+(Q6n g i).2) rfl hw.2.1 (by rw [← Nb];exact hb2)
  rw [Qgc,dif_neg h]
termination_by m=>m
decreasing_by have:=(Qi8 g i h).1;omega
theorem Qnt {s:List UInt8}:∀ (n p:Nat),p+n≤s.length→(∀ j,j<n→at8 s (p+j)<128)→Qgc s p=none→Qgc s (p+n)=none
 | 0,p,_,_,h=>h
 | n+1,p,hl,ha,h=>by
  have h0:at8 s p<128:=ha 0 (by omega);obtain ⟨_,hb⟩:=Qr9 (show p<s.length by omega) h;have hw:=((Qi8 s p (by omega)).2.2.2.1 h0).2;rw [hw] at hb;have:=Qnt n (p+1) (by omega) (fun j hj=>by have:=ha (j+1) (by omega);rwa [show p+1+j=p+(j+1) by omega]) hb
  rwa [show p+(n+1)=p+1+n by omega]
theorem Qp0 (a b:List UInt8) (j:Nat):at8 (a++b) (a.length+j)=at8 b j:=by
 unfold at8;rw [Lg,Lg,Lz (by omega),Df]
theorem Quq (a b:List UInt8) (j:Nat) (h:j<a.length):at8 (a++b) j=at8 a j:=by
 unfold at8;rw [Lg,Lg,Lr h]
def shaP:List UInt8 := [36,115,104,97,114,101,47]
theorem Qss {g b:List UInt8} (h:Vg (shaP++(g++47::b))=true):Vg g=true:=by
 have hl:=Z8j h;unfold Vg at h ⊢;simp only [La,Ag,Option.isNone_iff_eq_none] at h ⊢;refine ⟨by simp only [Le,Li] at hl;omega,?_⟩
 have h7:Qgc (shaP++(g++47::b)) 7=none:=by
  have:=Qnt (s:=shaP++(g++47::b)) 7 0 (by simp [shaP]) (fun j hj=>by
   rw [Mq,Quq _ _ _ (by simp [shaP];omega)]
   have:∀ j:Fin 7,at8 shaP j.val<128:=by decide
   exact this ⟨j,hj⟩) h.2
  exact this
 refine Qsk (s:=shaP++(g++47::b)) (g:=g) (p:=7) (fun j hj=>?_) ?_ ?_ g.length 0 (by omega) (Lm _) h7
 ·rw [show 7=shaP.length from rfl,Qp0,Quq _ _ _ hj]
 ·simp [shaP];omega
 rw [show 7=shaP.length from rfl,Qp0];have:=Qp0 g (47::b) 0;rw [Nv] at this;rw [this];show ((47:UInt8)).toNat<128
 decide
end
end Go.Av
namespace Go.Av
noncomputable section
def Qkc (x:List UInt8) (e:Bool):Bool:=if x = [43] then true else if x = [35] then e else !(Qry x)
def Qjl:List (List UInt8)→Bool
 | []=>true
 | x::r=>Qkc x r.isEmpty&&Qjl r
theorem Z08 {l:List (List UInt8)} {i:Nat} (hi:i<l.length):Qjl (l.drop i)=(Qkc l[i] (decide (i+1=l.length))&&Qjl (l.drop (i+1))):=by
 rw [Mp hi];show (Qkc l[i] (l.drop (i+1)).isEmpty&&Qjl (l.drop (i+1)))=_
 congr 2
 rw [Ce,List.isEmpty_iff,Ag,List.drop_eq_nil_iff];omega
def Qfl (s:List UInt8):Bool:=decide (s ≠ [])&&Vg s&&Qjl (Wt s)
theorem Z4y (N:Nat) (x:List UInt8):Q4j N x=some (decide (x = [43])||decide (x = [35])):=by
 unfold Q4j;rw [Gq,Gq];cases decide (x = [43])<;>rfl
theorem Z7f (l:List (List UInt8)) (h1:l.length≤70001) (h2:∀ x∈l,x.length≤70000):Tot (fun N=>Q3p N l) (Qjl l):=by
 refine Ar ?_;have hm:=ml7;unfold Q3p;refine Q5n (L:=fun N n i=>Ye N l n i) l.length (fun i=>Qjl (l.drop i)=Qjl l) (fun i hi hJ=>?_) (fun hJ=>?_) rfl
 ·have hla:=Z08 hi;rw [hJ] at hla;have hx:=h2 _ (Md hi);show Stp _ _ _ (fun N n=>cond (Q3 .lss (i:Int) ((Q6 cS l).length:Int)) _ _);rw [Q4,Qd];refine AE (fun _=>?_) (fun h=>by have:=Ac h;omega);refine AD (Z2 hi) ?_
  have ei:wrap .i64 ((i:Int)+1)=((i+1:Nat):Int):=by rw [w64 _ (by omega)];omega
  have go:Qkc l[i] (decide (i+1=l.length))=true→Stp (fun N n i=>Ye N l n i) (fun s=>s=((i+1:Nat):Int)∧Qjl (l.drop (i+1))=Qjl l) (· = Qjl l) (fun N n=>Ye N l n (wrap .i64 ((i:Int)+1))):=fun e=>by
   rw [ei];exact AB (L:=fun N n i=>Ye N l n i) _ ⟨rfl,by rw [hla,e];rfl⟩
  have no:Qkc l[i] (decide (i+1=l.length))=false→Stp (fun N n i=>Ye N l n i) (fun s=>s=((i+1:Nat):Int)∧Qjl (l.drop (i+1))=Qjl l) (· = Qjl l) (fun _ _=>some false):=fun e=>AA (by rw [hla,e];rfl);have hc:Tot (fun N=>Xk N l[i]) (Qry l[i]):=Qgs _ (by omega);rw [Gq];refine AE (fun g=>?_) (fun g=>?_)
  ·have g:=Aa g
   have x1:l[i] ≠ [43]:=by rw [g];decide
   have hX:Qkc l[i] (decide (i+1=l.length))=decide (i+1=l.length):=by unfold Qkc;rw [Ae x1,Af g]
   rw [ei,Qa];refine AE (fun g1=>no ?_) (fun g1=>?_)
   ·rw [hX];exact Ab (by have:=Ac (bN g1);omega)
   have hX2:Qkc l[i] (decide (i+1=l.length))=true:=by rw [hX];exact Ad (by have:=Aa (bP g1);omega)
   refine AC (V:=(· = true)) ⟨_,rfl,.of fun N=>by rw [Z4y,g];rfl⟩ (fun w hw=>?_);subst hw;refine AE (fun h=>nomatch h) (fun _=>?_);have:=go hX2
   rwa [ei] at this
  have g:=Ac g;refine AC (V:=(· = decide (l[i] = [43]))) ⟨_,rfl,.of fun N=>by rw [Z4y,Ab g,Dk]⟩ (fun w hw=>?_);subst hw;refine AE (fun g1=>?_) (fun g1=>go ?_)
  ·have g1:=Ac (bN g1)
   have hX:Qkc l[i] (decide (i+1=l.length)) = !(Qry l[i]):=by unfold Qkc;rw [Ae g1,Ae g]
   refine AC (V:=(· = Qry l[i])) ⟨_,rfl,hc⟩ (fun w hw=>?_);subst hw;exact AE (fun g2=>no (by rw [hX,g2];rfl)) (fun g2=>go (by rw [hX,g2];rfl))
  unfold Qkc;rw [Af (Aa (bP g1))]
 show Stp _ _ _ (fun N n=>cond (Q3 .lss (l.length:Int) ((Q6 cS l).length:Int)) _ _);rw [Q4,Qd,Ab (by omega)];refine AA ?_;rw [← hJ,Ma (Lj _)];rfl
theorem Qiq {s:List UInt8} (hs:s.length≤70000):(Wt s).length≤70001∧∀ x∈Wt s,x.length≤70000:=by
 have:=Qln s 47 0;exact ⟨by rw [Qg1];omega,fun x hx=>Nd (Qkl s x hx) hs⟩
theorem Qw5 (s:List UInt8) (hs:s.length≤70000):Tot (fun N=>Gr N s) (Qfl s):=by
 refine Ar ?_;have hb:=Qiq hs;unfold Gr Qfl;refine Au (Qr3 s) ?_;refine Aw (fun g=>?_) (fun g => .ret (by rw [g];rfl));rw [g];refine Au (Z3m s hs) ?_;exact Au (Z7f _ hb.1 hb.2) (.ret rfl)
theorem Quy (s:List UInt8) (hs:s.length≤70000):Tot (fun N=>Yj N s) (Qfl s):=by
 refine Ar ?_;have hb:=Qiq hs;have hm:=ml7;unfold Yj Qfl;rw [Gq];refine Aw (fun g => .ret (by rw [Ab (fun x=>x (Aa g))];rfl)) (fun g=>?_);rw [Ad (Ac g),Cx];refine Au (Q47 s) ?_;refine Aw (fun g => .ret (by rw [bN g];rfl)) (fun g=>?_);rw [bP g,Cx];refine Au (Qx3 s hs) ?_;generalize Wt s=l at hb;obtain ⟨h1,h2⟩:=hb;refine Q5n (L:=fun N n i=>Qt N l n i) l.length (fun i=>Qjl (l.drop i)=Qjl l) (fun i hi hJ=>?_) (fun hJ=>?_) rfl
 ·have hla:=Z08 hi;rw [hJ] at hla;have hx:=h2 _ (Md hi);show Stp _ _ _ (fun N n=>cond (Q3 .lss (i:Int) ((Q6 cS l).length:Int)) _ _);rw [Q4,Qd];refine AE (fun _=>?_) (fun h=>by have:=Ac h;omega)
  have ei:wrap .i64 ((i:Int)+1)=((i+1:Nat):Int):=by rw [w64 _ (by omega)];omega
  have go:Qkc l[i] (decide (i+1=l.length))=true→Stp (fun N n i=>Qt N l n i) (fun s=>s=((i+1:Nat):Int)∧Qjl (l.drop (i+1))=Qjl l) (· = Qjl l) (fun N n=>Qt N l n (wrap .i64 ((i:Int)+1))):=fun e=>by
   rw [ei];exact AB (L:=fun N n i=>Qt N l n i) _ ⟨rfl,by rw [hla,e];rfl⟩
  have no:Qkc l[i] (decide (i+1=l.length))=false→Stp (fun N n i=>Qt N l n i) (fun s=>s=((i+1:Nat):Int)∧Qjl (l.drop (i+1))=Qjl l) (· = Qjl l) (fun _ _=>some false):=fun e=>AA (by rw [hla,e];rfl);have a43:Tot (fun N=>Y7 N l[i] 43) (l[i].any fun b=>b.toNat == 43):=Qg7 _ (by omega) 43;have a35:Tot (fun N=>Y7 N l[i] 35) (l[i].any fun b=>b.toNat == 35):=Qg7 _ (by omega) 35;have hh:=Qpe l[i];refine AD (Z2 hi) ?_;refine AC (V:=(· = l[i].any fun b=>b.toNat == 43)) ⟨_,rfl,a43⟩ (fun w hw=>?_);subst hw;refine AE (fun g43=>?_) (fun g43=>?_)
  ·refine AD (Z2 hi) ?_;rw [Q82];refine AE (fun g=>no ?_) (fun g=>?_)
   ·have g:=Aa g
    by_cases h35:l[i] = [35]
    ·rw [h35] at g43;exact absurd g43 (by decide)
    unfold Qkc;rw [Ae g,Ae h35,hh,g43];rfl
   have g:l[i] = [43]:=Decidable.byContradiction fun x=>Ac g x
   have hX:Qkc l[i] (decide (i+1=l.length))=true:=by unfold Qkc;rw [Af g]
   refine AD (Z2 hi) ?_;refine AC (V:=(· = false)) ⟨_,by rw [g];decide,a35⟩ (fun w hw=>?_);subst hw;exact AE (fun h=>nomatch h) (fun _=>go hX)
  have n43:l[i] ≠ [43]:=fun x=>by rw [x] at g43;exact absurd g43 (by decide)
  refine AD (Z2 hi) ?_;refine AC (V:=(· = l[i].any fun b=>b.toNat == 35)) ⟨_,rfl,a35⟩ (fun w hw=>?_);subst hw;refine AE (fun g35=>?_) (fun g35=>go ?_)
  ·refine AD (Z2 hi) ?_;rw [Q82];refine AE (fun g=>no ?_) (fun g=>?_)
   ·have g:=Aa g;unfold Qkc;rw [Ae n43,Ae g,hh,g35,Bool.or_true];rfl
   have g:l[i] = [35]:=Decidable.byContradiction fun x=>Ac g x
   have hX:Qkc l[i] (decide (i+1=l.length))=decide (i+1=l.length):=by unfold Qkc;rw [Ae n43,Af g]
   rw [ei,Qd];refine AE (fun g1=>no ?_) (fun g1=>?_)
   ·rw [hX];exact Ab (by have:=Aa g1;omega)
   have:=go (by rw [hX];exact Ad (by have:=Ac g1;omega))
   rwa [ei] at this
  have n35:l[i] ≠ [35]:=fun x=>by rw [x] at g35;exact absurd g35 (by decide)
  unfold Qkc;rw [Ae n43,Ae n35,hh,g43,g35];rfl
 show Stp _ _ _ (fun N n=>cond (Q3 .lss (l.length:Int) ((Q6 cS l).length:Int)) _ _);rw [Q4,Qd,Ab (by omega)];refine AA ?_;rw [← hJ,Ma (Lj _)];rfl
end
end Go.Av
namespace Go.Av
noncomputable section
def Qst (s:List UInt8):Prop:=Vg s=true∧∃ t,s=shaP++t∧∃ k:Nat,Qdn t 47 0=(k:Int)∧Q04 (t.take k)=true∧Qfl (t.drop (k+1))=true
theorem Qyj {t t':List UInt8} (h:shaP++t=shaP++t'):t=t':=List.append_cancel_left h
theorem Qr7 {s:List UInt8} (h:s.take 7=shaP):s=shaP++s.drop 7:=by
 conv=>lhs;rw [← Nl 7 s,h]
theorem Zsw (s:List UInt8):TotP (fun N=>Q06 N s [36,115,104,97,114,101,47]) (fun r=>(r.2=true∧s=shaP++r.1)∨(r.2=false∧(∀ t,s≠shaP++t)∧r.1=s)):=by
 unfold Q06 Wj;refine At (V:=fun r=>(r.2=true∧s=shaP++r.1)∨(r.2=false∧(∀ t,s≠shaP++t)∧r.1=s)) ?_ (fun w hw => .ret hw);refine At (V:=fun b=>b=true↔∃ t,s=shaP++t) ?_ (fun b hb=>?_)
 ·unfold Wi;refine Aw (fun g=>?_) (fun g => .ret ⟨fun x=>(nomatch x),fun ⟨t,e⟩=>?_⟩)
  ·rw [Wx] at g;have g:=Aa g;have g:(7:Int)≤(s.length:Int):=g
   have hl:7≤s.length:=by omega
   refine Ax (by simp;omega) (.ret ?_);show Q0p .eql ((s.take 7).drop 0) shaP=true↔_;rw [Gq,Mz,Ag];exact ⟨fun x=>⟨_,Qr7 x⟩,fun ⟨t,e⟩=>by rw [e];rfl⟩
  rw [Wx] at g;exact absurd (by rw [e];simp [shaP];omega) (Ac g)
 refine Aw (fun g => .ret (.inr ⟨rfl,(fun t e=>by rw [hb.2 ⟨t,e⟩] at g;cases g),rfl⟩)) (fun g=>?_);obtain ⟨t,e⟩:=hb.1 (bP g);refine Ax (by rw [e];simp [shaP]) (.ret (.inl ⟨rfl,?_⟩));rw [e,Ms (Lj _)];rfl
theorem Z1b (s:List UInt8) (hs:s.length≤70000):TotP (fun N=>Q3m N s) (fun r=>r.2.2=true↔Qst s):=by
 have hm:=ml7;unfold Q3m;refine At (Zsw s) (fun w hw=>?_);obtain ⟨t,b⟩:=w;dsimp only at hw ⊢;have no:¬ Qst s→TotP (fun _=>some (([]:List UInt8),([]:List UInt8),false)) (fun r=>r.2.2=true↔Qst s):=fun x => .ret ⟨fun y=>(nomatch y),fun y=>absurd y x⟩
 have ht:t.length≤s.length:=by
  rcases hw with ⟨_,e⟩ | ⟨_,_,e⟩
  ·have:=congrArg List.length e;rw [Le] at this;omega
  rw [e];exact Lj _
 have noP:b=false→¬ Qst s:=fun e=>by
  rcases hw with ⟨e2,_⟩ | ⟨_,e2,_⟩
  ·rw [e] at e2;cases e2
  exact fun x=>by obtain ⟨_,t',e3,_⟩:=x;exact e2 t' e3
 -- what is left where the slash is at k
 have main:b=true→∀ k:Nat,Qdn t 47 0=(k:Int)→TotP (fun N=>(X1 N s).bind fun v23=>cond (!v23) (some (([]:List UInt8),([]:List UInt8),false)) ((Jl N (t.take k)).bind fun v26=>cond (!v26) (some ([],[],false)) ((Gr N (t.drop (k+1))).bind fun v29=>cond (!v29) (some ([],[],false)) (some (t.take k,t.drop (k+1),true))))) (fun r=>r.2.2=true↔Qst s):=fun hb k hk=>by
  have es:s=shaP++t:=by
   rcases hw with ⟨_,e⟩ | ⟨e,_⟩
   ·exact e
   rw [hb] at e;cases e
  have uniq:Qst s→Vg s=true∧Q04 (t.take k)=true∧Qfl (t.drop (k+1))=true:=fun x=>by
   obtain ⟨x1,t',e,k',x2,x3,x4⟩:=x;have e2:=Qyj (es.symm.trans e);subst e2
   have:k=k':=by omega
   subst this;exact ⟨x1,x3,x4⟩
  refine Au (Q96 s) ?_;refine Aw (fun g=>no fun x=>by rw [(uniq x).1] at g;cases g) (fun g1=>?_);refine Au (Qf8 (t.take k) (by rw [Mk];omega)) ?_;refine Aw (fun g=>no fun x=>by rw [(uniq x).2.1] at g;cases g) (fun g2=>?_);refine Au (Qw5 (t.drop (k+1)) (by rw [Ng];omega)) ?_;refine Aw (fun g=>no fun x=>by rw [(uniq x).2.2] at g;cases g) (fun g3=>?_);exact .ret ⟨fun _=>⟨bP g1,t,es,k,hk,bP g2,bP g3⟩,fun _=>rfl⟩
 refine Aw (fun g=>?_) (fun g=>?_)
 ·rw [Gq] at g;have g:=Aa g;refine Ax (by rw [← g];rfl) ?_;refine Aw (fun gb=>no (noP (bN gb))) (fun gb=>?_);have:=main (bP gb) 0 (by rw [← g];rfl);subst g;exact this
 refine At (V:=fun v=>v=Qdn t 47 0) ⟨_,rfl,.of fun _=>rfl⟩ (fun v hv=>?_);subst hv;refine Aw (fun g2=>?_) (fun g2=>?_)
 ·rw [Wx] at g2;have g2:=Aa g2
  rcases Qg2 t 47 0 with h3 | ⟨k,h3,_,h4⟩
  ·omega
  rw [h3]
  have k1:wrap .i64 ((k:Int)+1)=((k+1:Nat):Int):=by rw [w64 _ (by omega)];omega
  rw [k1,Lt,Lt];refine Ax (Ad (by omega)) ?_;refine Ax (by rw [La,Ln,Ln];omega) ?_;refine Ax (Ad (by omega)) ?_;refine Ax (by rw [La,Ln,Ln];omega) ?_;refine Aw (fun gb=>no (noP (bN gb))) (fun gb=>?_);have:=main (bP gb) k h3;rw [Mz,Ms (Lj t.length)];exact this
 have nn:¬ Qst s:=fun x=>by
  cases b with
  | false=>exact noP rfl x
  | true=>
   obtain ⟨_,t',e,k',x2,_⟩:=x
   rcases hw with ⟨_,e1⟩ | ⟨e1,_⟩
   ·have e2:=Qyj (e1.symm.trans e);subst e2;rw [Wx] at g2;exact Ac g2 (by omega)
   cases e1
 exact Aw (fun _=>no nn) (fun _=>no nn)
def jnS (l:List (List UInt8)):List UInt8:=l.flatMap fun x=>47::x
theorem Ql2:∀ {s a:List UInt8} {r:List (List UInt8)},Wt s=a::r→a++jnS r=s
 | [],a,r,h=>by cases h;rfl
 | c::s,a,r,h=>by
  obtain ⟨a',r',e⟩:=Q21 s;have ih:=Ql2 e
  cases hc:(c == 47) with
  | true=>
   rw [eq_of_beq hc,Qex,e] at h;cases h;rw [eq_of_beq hc,← ih];rfl
  | false=>
   rw [Q92 hc e] at h;cases h;rw [← ih];rfl
theorem Z88 {s a:List UInt8} {r:List (List UInt8)} (e:Wt s=a::r) (hs:s.length≤70000):Tot (fun N=>Gk N (a::r)) s:=by
 refine Ar ?_;have hj:=Ql2 e;have hb:=Qiq hs;rw [e] at hb;unfold Gk;refine Qas (L:=fun N n (q:List UInt8×Int)=>Yb N (a::r) n q.1 q.2) (Q:=(· = s)) (fun q=>∃ i:Nat,q.2=(i:Int)∧i≤(a::r).length∧((i=0∧q.1 = [])∨(1≤i∧q.1++jnS ((a::r).drop i)=s))) (fun q=>(a::r).length - q.2.toNat) ?_ ([],0) ⟨0,rfl,Lm _,.inl ⟨rfl,rfl⟩⟩
 rintro ⟨o,i'⟩ ⟨i,h1,h2,h3⟩
 simp only at h1 h3
 subst h1;show Stp _ _ _ (fun N n=>cond (Q3 .lss (i:Int) ((Q6 cS (a::r)).length:Int)) _ _);rw [Q4,Qd];refine AE (fun g=>?_) (fun g=>?_)
 ·have g:i<(a::r).length:=by have:=Aa g;omega
  have ei:wrap .i64 ((i:Int)+1)=((i+1:Nat):Int):=by rw [w64 _ (by omega)];omega
  have hd:(a::r).drop i=(a::r)[i]::(a::r).drop (i+1):=Mp g;have hx:=hb.2 _ (Md g);dsimp only;rw [ei,Qy];refine AE (fun g1=>?_) (fun g1=>?_)
  ·have g1:=Aa g1
   have h3:o++jnS ((a::r).drop i)=s:=by
    rcases h3 with ⟨h3,_⟩ | ⟨_,h3⟩
    ·omega
    exact h3
   have ol:o.length≤70000:=by have:=congrArg List.length h3;rw [Le] at this;omega
   refine AF (by rw [Ln];simp only [Lw];omega) ?_;refine AD (Z2 g) ?_;refine AF (by rw [Ln];simp only [Le,Lw];omega) ?_;refine AB (L:=fun N n (q:List UInt8×Int)=>Yb N (a::r) n q.1 q.2) (_,_) ⟨⟨i+1,rfl,by omega,.inr ⟨by omega,?_⟩⟩,by simp only [Lt];omega⟩;show ((o ++ [47])++(a::r)[i])++jnS ((a::r).drop (i+1))=s;rw [← h3,hd];show _=o++((47::(a::r)[i])++jnS ((a::r).drop (i+1)));simp only [Lq,Bd,My]
  have g1:=Ac g1
  obtain rfl:i=0:=by omega
  rcases h3 with ⟨_,h3⟩ | ⟨h3,_⟩
  ·subst h3;refine AD (Z2 g) ?_;refine AF (by rw [Ln];simp only [Ly];omega) ?_;refine AB (L:=fun N n (q:List UInt8×Int)=>Yb N (a::r) n q.1 q.2) (_,_) ⟨⟨1,rfl,by omega,.inr ⟨Lj _,?_⟩⟩,by simp only [Lt];omega⟩;exact hj
  omega
 have g:i=(a::r).length:=by have:=Ac g;omega
 refine AA ?_
 rcases h3 with ⟨h3,_⟩ | ⟨_,h3⟩
 ·rw [h3] at g;simp at g
 rw [← h3,g,Ma (Lj _)];show o=o ++ [];rw [Lu]
theorem Z1x (s:List UInt8) (hs:s.length≤70000):TotP (fun N=>Uw N s) (fun r=>r.2.2=true↔Qst s):=by
 have hm:=ml7;unfold Uw;have no:¬ Qst s→TotP (fun _=>some (([]:List UInt8),([]:List UInt8),false)) (fun r=>r.2.2=true↔Qst s):=fun x => .ret ⟨fun y=>(nomatch y),fun y=>absurd y x⟩;refine Au (Q47 s) ?_;refine Aw (fun g=>no fun x=>by rw [x.1] at g;cases g) (fun gv=>?_);have gv:=bP gv;rw [Qd];refine Aw (fun g=>no fun x=>?_) (fun g7=>?_)
 ·obtain ⟨_,t,e,_⟩:=x;have:=Aa g;rw [e,Le] at this;simp [shaP] at this;omega
 have g7:7≤s.length:=by have:=Ac g7;omega
 refine Ax (by rw [La,Ln,Ln];omega) ?_;rw [Mz,Q82];refine Aw (fun g=>no fun x=>?_) (fun g=>?_)
 ·obtain ⟨_,t,e,_⟩:=x;exact Aa g (by rw [e];rfl)
 have g:s.take 7=shaP:=Decidable.byContradiction fun x=>Ac g x;have es:=Qr7 g;generalize hT:s.drop 7=t at es
 have ht:t.length≤s.length:=by rw [← hT,Ng];omega
 have e6:Qdn s 47 0=((0+6:Nat):Int):=by rw [es];rfl
 have hsp:=(Qc1 s 0 6 e6).1;rw [show s.drop (6+1)=t from hT] at hsp;refine Au (Qx3 s hs) ?_;rw [Q4,Qd]
 have uniq:∀ k:Nat,Qdn t 47 0=(k:Int)→Qst s→Q04 (t.take k)=true∧Qfl (t.drop (k+1))=true:=fun k hk x=>by
  obtain ⟨x1,t',e,k',x2,x3,x4⟩:=x;have e2:=Qyj (es.symm.trans e);subst e2
  have:k=k':=by omega
  subst this;exact ⟨x3,x4⟩
 rcases Qg2 t 47 0 with h3 | ⟨k,h3,_,h4⟩
 ·have nn:¬ Qst s:=fun x=>by
   obtain ⟨_,t',e,k',x2,_⟩:=x;have e2:=Qyj (es.symm.trans e);subst e2;omega
  rw [hsp,Qc7 t 0 h3];exact Aw (fun _=>no nn) (fun g=>nomatch g)
 have hk:=Qc1 t 0 k (by rw [h3];omega)
 have hl:Wt s=s.take 6::t.take k::Wt (t.drop (k+1)):=by rw [hsp,hk.1]
 obtain ⟨a,r,ea⟩:=Q21 (t.drop (k+1))
 have hn:Q04 (t.take k)=(decide (t.take k ≠ []) && !(Qry (t.take k))):=by
  have hv:Vg (t.take k)=true:=Qss (b:=t.drop (k+1)) (by rw [← hk.2.2,← es];exact gv);unfold Q04;rw [hv,Bool.and_true]
 have i1:idx (Wt s) 1=some (t.take k):=by rw [hl];rfl
 have hlen:(Wt s).length=3+r.length:=by rw [hl,ea];simp only [Li];omega
 have hT1:(t.take k).length≤maxLen:=by rw [Mk];omega
 have hh:=Qpe (t.take k);refine Aw (fun g=>absurd (Aa g) (by omega)) (fun _=>?_);refine Ay i1 ?_;rw [Gq];refine Aw (fun g=>no fun x=>?_) (fun g1=>?_)
 ·have:=(uniq k h3 x).1;rw [Aa g] at this;exact absurd this (by decide)
 refine Ay i1 ?_;refine Au (Qg7 (t.take k) hT1 43) ?_;refine Aw (fun g=>no fun x=>?_) (fun g2=>?_)
 ·have:=(uniq k h3 x).1;rw [hn,hh,g,Bool.true_or] at this;simp at this
 refine Ay i1 ?_;refine Au (Qg7 (t.take k) hT1 35) ?_;refine Aw (fun g=>no fun x=>?_) (fun g3=>?_)
 ·have:=(uniq k h3 x).1;rw [hn,hh,g,Bool.or_true] at this;simp at this
 have hname:Q04 (t.take k)=true:=by
  rw [hn,hh,g2,g3,Ad (Ac g1)];rfl
 refine Ax (by rw [La,Ln,Ln];omega) ?_
 have hd2:(Wt s).drop 2=a::r:=by rw [hl,ea];rfl
 rw [hd2];refine Au (Z88 ea (by rw [Ng];omega)) ?_;refine Au (Quy (t.drop (k+1)) (by rw [Ng];omega)) ?_;refine Aw (fun g=>no fun x=>by rw [(uniq k h3 x).2] at g;cases g) (fun g4=>?_);refine Ay i1 (.ret ⟨fun _=>⟨gv,t,es,k,h3,hname,bP g4⟩,fun _=>rfl⟩)
end
end Go.Av
namespace Go.Av
noncomputable section
def Qu1 (v:Int) (p:Q1):Q1:=cond (decide (p.Kind=8∨p.Kind=10)) ⟨p.Kind,false,false,0,p.ID,[],[],false,0,[],false,[],false,[],false,(⟨[],[],0,false,[]⟩:Xn),false,0,[],p.Filters,p.Props⟩
 (cond (decide (p.Kind=9∨v=5)) ⟨p.Kind,false,false,0,p.ID,[],[],false,0,[],false,[],false,[],false,(⟨[],[],0,false,[]⟩:Xn),false,0,p.Codes,[],p.Props⟩ ⟨p.Kind,false,false,0,p.ID,[],[],false,0,[],false,[],false,[],false,(⟨[],[],0,false,[]⟩:Xn),false,0,[],[],p.Props⟩)
def Z12 (v:Int) (p:Q1):Prop:=(v=4∨v=5)∧8≤p.Kind∧p.Kind≤11
def Qu4 (v:Int) (p:Q1):Prop:=p=Qu1 v p∧(1≤p.ID∧p.ID≤65535)∧(v=4→p.Props = [])∧(p.Kind=11∧v=4∨p.Filters.length+p.Codes.length≠0)
def Z51 (c:Int):Bool:=decide (c=0∨c=1∨c=2∨c=128)
def Qw0 (v k c:Int):Bool:=if v=4 then Z51 c else Qqg k c
def Qtt (v k:Int):List Int→Int
 | []=>0
 | c::r=>if Qw0 v k c=false then 2 else Qtt v k r
def Qmv (v k:Int) (f:Qg):Prop:=if k=10 then f.QoS=0∧f.NoLocal=false∧f.AsPublished=false∧f.Handling=0 else
 (0≤f.QoS∧f.QoS≤2)∧(v=4→f.NoLocal=false∧f.AsPublished=false∧f.Handling=0)∧(v≠4→(0≤f.Handling∧f.Handling≤2)∧¬ (f.NoLocal=true∧Qst f.Topic))
open Classical in
noncomputable def Qk6 (v k:Int) (cs:List Int):List Qg→Int
 | []=>Qtt v k cs
 | f::r=>if Qfl f.Topic=false then 10 else if Qmv v k f then Qk6 v k cs r else 2
open Classical in
noncomputable def Qqs (v:Int) (p:Q1):Int:=if Z12 v p∧Qu4 v p then (if Q6x p.Kind [] p.Props≠0 then Q6x p.Kind [] p.Props else Qk6 v p.Kind p.Codes p.Filters) else 2
theorem Q79 {v:Int} {p:Q1} (h:¬ (Z12 v p∧Qu4 v p)):TotP (fun _=>some (2:Int)) (· = Qqs v p) := .ret (by unfold Qqs;rw [Ae h])
theorem Qvo (v k:Int) (cs:List Int) {l:List Qg} {i:Nat} (hi:i<l.length):(Qfl l[i].Topic=false→Qk6 v k cs (l.drop i)=10)∧(Qfl l[i].Topic=true→¬ Qmv v k l[i]→Qk6 v k cs (l.drop i)=2)∧(Qfl l[i].Topic=true→Qmv v k l[i]→Qk6 v k cs (l.drop i)=Qk6 v k cs (l.drop (i+1))):=by
 rw [Mp hi];refine ⟨fun h=>?_,fun h h2=>?_,fun h h2=>?_⟩
 ·show (if Qfl l[i].Topic=false then (10:Int) else _)=10;rw [Af h]
 ·show (if Qfl l[i].Topic=false then (10:Int) else _)=2;rw [Ae (by rw [h];decide),Ae h2]
 show (if Qfl l[i].Topic=false then (10:Int) else _)=_;rw [Ae (by rw [h];decide),Af h2]
theorem Z44 (v k:Int) {l:List Int} {i:Nat} (hi:i<l.length):(Qw0 v k l[i]=false→Qtt v k (l.drop i)=2)∧(Qw0 v k l[i]=true→Qtt v k (l.drop i)=Qtt v k (l.drop (i+1))):=by
 rw [Mp hi];refine ⟨fun h=>?_,fun h=>?_⟩
 ·show (if Qw0 v k l[i]=false then (2:Int) else _)=2;rw [Af h]
 show (if Qw0 v k l[i]=false then (2:Int) else _)=_;rw [Ae (by rw [h];decide)]
section
variable {v k:Int} {l:List Int} {fs:List Qg}
theorem Qmj (hl:l.length≤30) {L1:Nat→Nat→Int→Option Int} {A:Nat→Int→Option Bool} (hA:∀ c,Tot (fun N=>A N c) (Qw0 v k c))
  (h1:∀ N n i,L1 N (n+1) i=cond (Q3 .lss i ((Q6 (cI .i64) l).length:Int)) ((idx l i).bind fun y=>(A N y).bind fun w=>cond (!w) (some 2) (L1 N n (wrap .i64 (i+1)))) (some 0)) (h0:∀ N i,L1 N 0 i=none):Tot (fun N=>L1 N N 0) (Qtt v k l):=by
 refine Ar ?_;refine Q5n (L:=L1) l.length (fun i=>Qtt v k (l.drop i)=Qtt v k l) (fun i hi hJ=>?_) (fun hJ=>?_) rfl
 ·have hc:=Z44 v k hi;rw [hJ] at hc
  have e:(fun N n=>L1 N (n+1) (i:Int))=fun N n=>cond (Q3 .lss (i:Int) ((Q6 (cI .i64) l).length:Int)) ((idx l (i:Int)).bind fun y=>(A N y).bind fun w=>cond (!w) (some 2) (L1 N n (wrap .i64 ((i:Int)+1)))) (some 0):=by funext N n;exact h1 N n _
  rw [e,Q4,Qd];refine AE (fun _=>?_) (fun h=>by have:=Ac h;omega);refine AD (Z2 hi) ?_;refine AC (V:=(· = Qw0 v k l[i])) ⟨_,rfl,hA _⟩ (fun w hw=>?_);subst hw;refine AE (fun g=>AA (hc.1 (bN g)).symm) (fun g=>?_);rw [w64 _ (by omega)];exact AB (L:=L1) _ ⟨by omega,(hc.2 (bP g)).symm⟩
 have e:(fun N n=>L1 N (n+1) (l.length:Int))=fun N n=>cond (Q3 .lss (l.length:Int) ((Q6 (cI .i64) l).length:Int)) ((idx l (l.length:Int)).bind fun y=>(A N y).bind fun w=>cond (!w) (some 2) (L1 N n (wrap .i64 ((l.length:Int)+1)))) (some 0):=by funext N n;exact h1 N n _
 rw [e,Q4,Qd,Ab (by omega)];refine AA ?_;rw [← hJ,Ma (Lj _)];rfl
theorem Qq5 (hf:fs.length≤30) {L0:Nat→Nat→Int→Option Int} {E:Nat→Option Int} {F:Nat→List UInt8→Option Bool} {O:Nat→Qg→Option Bool} (hE:Tot E (Qtt v k l)) (hF:∀ f∈fs,Tot (fun N=>F N f.Topic) (Qfl f.Topic)) (hO:∀ f∈fs,TotP (fun N=>O N f) (fun b=>b=true↔Qmv v k f))
  (h1:∀ N n i,L0 N (n+1) i=cond (Q3 .lss i ((Q6 Qg.cells fs).length:Int)) ((idx fs i).bind fun y=>(F N y.Topic).bind fun w=>cond (!w) (some 10) ((idx fs i).bind fun y=>(O N y).bind fun w=>cond (!w) (some 2) (L0 N n (wrap .i64 (i+1))))) (E N)):Tot (fun N=>L0 N N 0) (Qk6 v k l fs):=by
 refine Ar ?_;refine Q5n (L:=L0) fs.length (fun i=>Qk6 v k l (fs.drop i)=Qk6 v k l fs) (fun i hi hJ=>?_) (fun hJ=>?_) rfl
 ·have hc:=Qvo v k l hi;rw [hJ] at hc
  have e:(fun N n=>L0 N (n+1) (i:Int))=fun N n=>cond (Q3 .lss (i:Int) ((Q6 Qg.cells fs).length:Int)) ((idx fs (i:Int)).bind fun y=>(F N y.Topic).bind fun w=>cond (!w) (some 10) ((idx fs (i:Int)).bind fun y=>(O N y).bind fun w=>cond (!w) (some 2) (L0 N n (wrap .i64 ((i:Int)+1))))) (E N):=by funext N n;exact h1 N n _
  rw [e,Q4,Qd];refine AE (fun _=>?_) (fun h=>by have:=Ac h;omega);refine AD (Z2 hi) ?_;refine AC (V:=(· = Qfl fs[i].Topic)) ⟨_,rfl,hF _ (Md hi)⟩ (fun w hw=>?_);subst hw;refine AE (fun g=>AA (hc.1 (bN g)).symm) (fun g=>?_);refine AD (Z2 hi) ?_;refine AC (hO _ (Md hi)) (fun w hw=>?_);refine AE (fun g2=>AA (hc.2.1 (bP g) (fun x=>by rw [hw.2 x] at g2;cases g2)).symm) (fun g2=>?_);rw [w64 _ (by omega)];exact AB (L:=L0) _ ⟨by omega,(hc.2.2 (bP g) (hw.1 (bP g2))).symm⟩
 have e:(fun N n=>L0 N (n+1) (fs.length:Int))=fun N n=>cond (Q3 .lss (fs.length:Int) ((Q6 Qg.cells fs).length:Int)) ((idx fs (fs.length:Int)).bind fun y=>(F N y.Topic).bind fun w=>cond (!w) (some 10) ((idx fs (fs.length:Int)).bind fun y=>(O N y).bind fun w=>cond (!w) (some 2) (L0 N n (wrap .i64 ((fs.length:Int)+1))))) (E N):=by funext N n;exact h1 N n _
 rw [e,Q4,Qd,Ab (by omega)];refine Az ?_;rw [← hJ,Ma (Lj _)];obtain ⟨N0,h⟩:=hE;exact ⟨_,rfl,N0,h⟩
end
theorem Zvh (N:Nat) (c:Int):Q3l N c=some (Z51 c):=by
 unfold Q3l Z51;rw [Qa,Qa,Qa,Qa]
 by_cases h0:c=0<;>by_cases h1:c=1<;>by_cases h2:c=2<;>by_cases h3:c=128<;>simp [h0,h1,h2,h3]
theorem Zub (N:Nat) (c:Int):Jr N c=some (Z51 c):=by
 unfold Jr Z51;rw [Qa,Qa,Qa,Qa]
 by_cases h0:c=0<;>by_cases h1:c=1<;>by_cases h2:c=2<;>by_cases h3:c=128<;>simp [h0,h1,h2,h3]
theorem Z82 (v k c:Int):Tot (fun N=>Q07 N v k c) (Qw0 v k c):=by
 refine Ar ?_;unfold Q07 Qw0;rw [Qa];refine Aw (fun g=>?_) (fun g=>?_)
 ·rw [Af (Aa g)];exact Au (.of fun N=>Zvh N c) (.ret rfl)
 rw [Ae (Ac g)];exact Au (Qhj k c) (.ret rfl)
theorem Z2w (v k c:Int):Tot (fun N=>V5 N v k c) (Qw0 v k c):=by
 refine Ar ?_;unfold V5 Qw0;rw [Qa];refine Aw (fun g=>?_) (fun g=>?_)
 ·rw [Af (Aa g)];exact Au (.of fun N=>Zub N c) (.ret rfl)
 rw [Ae (Ac g)];exact Au (Qhe k c) (.ret rfl)
theorem Z7s (v k:Int) (f:Qg) (hf:f.Topic.length≤2000):TotP (fun N=>Q02 N v k f) (fun b=>b=true↔Qmv v k f):=by
 have hbl:∀ (N:Nat) (n:Int),J4 N n=some (decide (0≤n∧n≤2)):=fun N n=>by
  unfold J4;rw [Wx,Qd]
  by_cases h:0≤n
  ·rw [Ad (p:=n≥0) h];show some (decide (n<3))=_
   congr 1;rw [decide_eq_decide];omega
  rw [Ab (p:=n≥0) h,Ab (p:=0≤n∧n≤2) (by omega)];rfl
 have fal:∀ {A:Prop},¬ A→TotP (fun _=>some false) (fun b=>b=true↔A):=fun x => .ret ⟨fun y=>(nomatch y),fun y=>absurd y x⟩
 have hpl:(((f.Topic:List UInt8) == f.Topic)&&(((f.QoS:Int) == f.QoS)&&(((f.NoLocal:Bool) == false)&&(((f.AsPublished:Bool) == false)&&(((f.Handling:Int) == 0)&&true)))))=decide (f.NoLocal=false∧f.AsPublished=false∧f.Handling=0):=by
  simp [Bool.decide_and];cases f.NoLocal<;>cases f.AsPublished<;>simp<;>rfl
 unfold Q02 Qmv;rw [hpl,Qa,Qa,Qa];refine Aw (fun g=>?_) (fun g=>?_)
 ·rw [Af (Aa g)];refine Aw (fun g1 => .ret ?_) (fun g1=>fal fun x=>Ac g1 x.2);have g1:=Aa g1;exact ⟨fun y=>⟨Aa y,g1⟩,fun x=>Ad x.1⟩
 rw [Ae (Ac g)];refine Aw (fun g4=>?_) (fun g4=>?_)
 ·have g4:=Aa g4;refine Aw (fun g1=>?_) (fun g1=>fal fun x=>Ac g1 (x.2.1 g4));have g1:=Aa g1;refine Au (.of fun N=>hbl N f.QoS) (.ret ⟨fun y=>⟨Aa y,fun _=>g1,fun x=>absurd g4 x⟩,fun x=>Ad x.1⟩)
 have g4:=Ac g4;refine At (Z1b f.Topic (by omega)) (fun w hw=>?_);refine Au (.of fun N=>hbl N f.QoS) ?_;refine Aw (fun g1=>?_) (fun g1=>fal fun x=>Ac g1 x.1);refine Au (.of fun N=>hbl N f.Handling) ?_;refine Aw (fun g2=>?_) (fun g2=>fal fun x=>Ac g2 (x.2.2 g4).1);have g1:=Aa g1;have g2:=Aa g2;refine Aw (fun g3 => .ret ?_) (fun g3 => .ret ?_)
 ·exact ⟨fun y=>⟨g1,fun x=>absurd x g4,fun _=>⟨g2,fun x=>by rw [x.1] at y;cases y⟩⟩,fun x=>by
   cases hn:f.NoLocal with
   | false=>rfl
   | true=>exact absurd ⟨hn,hw.1 g3⟩ (x.2.2 g4).2⟩
 exact ⟨fun _=>⟨g1,fun x=>absurd x g4,fun _=>⟨g2,fun x=>by rw [hw.2 x.2] at g3;cases g3⟩⟩,fun _=>rfl⟩
theorem Z7b (v k:Int) (f:Qg) (hf:f.Topic.length≤2000):TotP (fun N=>Yz N v k f) (fun b=>b=true↔Qmv v k f):=by
 have fal:∀ {A:Prop},¬ A→TotP (fun _=>some false) (fun b=>b=true↔A):=fun x => .ret ⟨fun y=>(nomatch y),fun y=>absurd y x⟩
 have hpl:(((f.Topic:List UInt8) == f.Topic)&&(((f.QoS:Int) == 0)&&(((f.NoLocal:Bool) == false)&&(((f.AsPublished:Bool) == false)&&(((f.Handling:Int) == 0)&&true)))))=decide (f.QoS=0∧f.NoLocal=false∧f.AsPublished=false∧f.Handling=0):=by
  simp [Bool.decide_and];cases f.NoLocal<;>cases f.AsPublished<;>simp<;>rfl
 unfold Yz Qmv;rw [hpl,Qa,Qd,Qy,Qd,Qy,Qa,Qa];refine Aw (fun g => .ret ?_) (fun g=>?_)
 ·rw [Af (Aa g)];exact ⟨fun y=>Aa y,fun x=>Ad x⟩
 rw [Ae (Ac g)];refine Aw (fun g1=>fal fun x=>by have:=Aa g1;have:=x.1;omega) (fun g1=>?_);refine Aw (fun g2=>fal fun x=>by have:=Aa g2;have:=x.1;omega) (fun g2=>?_);have g1:=Ac g1;have g2:=Ac g2
 have hb:∀ {P:Prop},(v=4→f.Handling=0)→(v≠4→0≤f.Handling∧f.Handling≤2)→(¬ (0≤f.Handling∧f.Handling≤2)→P):=fun a b c=>by
  by_cases h:v=4
  ·have:=a h;omega
  exact absurd (b h) c
 refine Aw (fun g3=>fal fun x=>hb (fun y=>(x.2.1 y).2.2) (fun y=>(x.2.2 y).1) (by have:=Aa g3;omega)) (fun g3=>?_);refine Aw (fun g4=>fal fun x=>hb (fun y=>(x.2.1 y).2.2) (fun y=>(x.2.2 y).1) (by have:=Aa g4;omega)) (fun g4=>?_);have g3:=Ac g3;have g4:=Ac g4;refine Aw (fun g5=>?_) (fun g5=>?_)
 ·have g5:=Aa g5;refine Aw (fun g6=>?_) (fun g6=>fal fun x=>by rw [(x.2.1 g5).1] at g6;cases g6);refine Aw (fun g7 => .ret ?_) (fun g7=>fal fun x=>by rw [(x.2.1 g5).2.1] at g7;cases g7);exact ⟨fun y=>⟨by omega,fun _=>⟨bN g6,bN g7,Aa y⟩,fun x=>absurd g5 x⟩,fun x=>Ad (x.2.1 g5).2.2⟩
 have g5:=Ac g5;refine At (Z1x f.Topic (by omega)) (fun w hw=>?_);refine Aw (fun g6 => .ret ?_) (fun g6 => .ret ?_)
 ·exact ⟨fun _=>⟨by omega,fun x=>absurd x g5,fun _=>⟨by omega,fun x=>by rw [x.1] at g6;cases g6⟩⟩,fun _=>rfl⟩
 exact ⟨fun y=>⟨by omega,fun x=>absurd x g5,fun _=>⟨by omega,fun x=>by rw [hw.2 x.2] at y;cases y⟩⟩,fun x=>by
  cases hs:w.2.2 with
  | false=>rfl
  | true=>exact absurd ⟨bP g6,hw.1 hs⟩ (x.2.2 g5).2⟩
end
end Go.Av
namespace Go.Av
noncomputable section
theorem Qq1 {v:Int} {p:Q1} (h:Z12 v p∧Qu4 v p):Qqs v p=if Q6x p.Kind [] p.Props≠0 then Q6x p.Kind [] p.Props else Qk6 v p.Kind p.Codes p.Filters:=by unfold Qqs;rw [Af h]
section
variable {v:Int} {p:Q1} (h:Qd0 p)
include h
theorem Qyk:Tot (fun N=>W2 N v p N 0) (Qk6 v p.Kind p.Codes p.Filters):=by
 have hf:=h.filters;have h1:Tot (fun N=>V8 N v p N 0) (Qtt v p.Kind p.Codes):=Qmj h.codes (L1:=fun N n i=>V8 N v p n i) (fun c=>Z82 v p.Kind c) (fun _ _ _=>rfl) (fun _ _=>rfl);refine Ar ?_;refine Q5n (L:=fun N n i=>W2 N v p n i) p.Filters.length (fun i=>Qk6 v p.Kind p.Codes (p.Filters.drop i)=Qk6 v p.Kind p.Codes p.Filters) (fun i hi hJ=>?_) (fun hJ=>?_) rfl
 ·have hc:=Qvo v p.Kind p.Codes hi;rw [hJ] at hc;have ht:=hf.2 _ (Md hi);show Stp _ _ _ (fun N n=>cond (Q3 .lss (i:Int) ((Q6 Qg.cells p.Filters).length:Int)) _ _);rw [Q4,Qd];refine AE (fun _=>?_) (fun h=>by have:=Ac h;omega);refine AD (Z2 hi) ?_;refine AC (V:=(· = Qfl p.Filters[i].Topic)) ⟨_,rfl,Qw5 _ (by omega)⟩ (fun w hw=>?_);subst hw;refine AE (fun g=>AA (hc.1 (bN g)).symm) (fun g=>?_);refine AC (Z7s v p.Kind p.Filters[i] ht) (fun w hw=>?_);refine AE (fun g2=>AA (hc.2.1 (bP g) (fun x=>by rw [hw.2 x] at g2;cases g2)).symm) (fun g2=>?_);rw [w64 _ (by omega)];exact AB (L:=fun N n i=>W2 N v p n i) _ ⟨by omega,(hc.2.2 (bP g) (hw.1 (bP g2))).symm⟩
 show Stp _ _ _ (fun N n=>cond (Q3 .lss (p.Filters.length:Int) ((Q6 Qg.cells p.Filters).length:Int)) _ _);rw [Q4,Qd,Ab (by omega)];refine Az ?_;rw [← hJ,Ma (Lj _)];obtain ⟨N0,h⟩:=h1;exact ⟨_,rfl,N0,h⟩
theorem Z7g:Tot (fun N=>Q1f N v p) (Qqs v p):=by
 refine Ar ?_;have e0:∀ l:List Qb,l = []↔l.length=0:=fun l=>Mi.symm;have hf:=h.filters.1;have hc:=h.codes
 have hkn:∀ N,Q1g N v p.Kind=some (decide ((v=4∨v=5)∧8≤p.Kind∧p.Kind≤11)):=fun N=>by
  unfold Q1g;rw [Qa,Qa,Wx,Xu]
  by_cases h4:v=4<;>by_cases h5:v=5<;>by_cases hk:8≤p.Kind<;>by_cases hk2:p.Kind≤11<;>simp [h4,h5,hk,hk2]
 unfold Q1f;refine Au (.of hkn) ?_;refine Aw (fun g=>Q79 fun x=>Ac (bN g) x.1) (fun g=>?_);have hK':=Aa (bP g);have hK:Z12 v p:=hK';have hk:=hK.2
 haveI:Kd p.Kind:=⟨by omega,by omega⟩
 have hfl:TotP (fun N=>Q0y N v p) (fun b=>b=true↔Qu4 v p):=by
  have no:¬ Qu4 v p→TotP (fun _=>some false) (fun b=>b=true↔Qu4 v p):=fun x => .ret ⟨fun y=>(nomatch y),fun y=>absurd y x⟩
  have hfi:∀ N,Vi N p.Kind=some (decide (p.Kind=8∨p.Kind=10)):=fun N=>by
   unfold Vi;rw [Qa,Qa,Ct];cases decide (p.Kind=8)<;>rfl
  have hsi:∀ N,Ub N v p.Kind=some (decide (p.Kind=11∧v=4)):=fun N=>by
   unfold Ub;rw [Qa,Qa,Bj];cases decide (p.Kind=11)<;>rfl
  have same:∀ q:Q1,Qu1 v p=q→(1≤p.ID∧p.ID≤65535)→(v=4→p.Props = [])→(p=Qu1 v p→p.Kind=11∧v=4∨p.Filters.length+p.Codes.length≠0)→TotP (fun N=>(Z6 N p q).bind fun v9=>some v9) (fun b=>b=true↔Qu4 v p):=fun q e a b c=>by
   rw [← e];exact At (Q1p p (Qu1 v p) h.l) (fun w hw => .ret ⟨fun y=>⟨hw.1 y,a,b,c (hw.1 y)⟩,fun x=>hw.2 x.1⟩)
  have tail:(1≤p.ID∧p.ID≤65535)→(v=4→p.Props = [])→TotP (fun N=>(Vi N p.Kind).bind fun v5=>cond v5 (cond (Q3 .gtr ((Q6 Qg.cells p.Filters).length:Int) 0) ((Z6 N p (⟨p.Kind,false,false,0,p.ID,[],[],false,0,[],false,[],false,[],false,(⟨[],[],0,false,[]⟩:Xn),false,0,[],p.Filters,p.Props⟩:Q1)).bind fun v9=>some v9) (some false))
    ((Ub N v p.Kind).bind fun v11=>cond v11 ((Z6 N p (⟨p.Kind,false,false,0,p.ID,[],[],false,0,[],false,[],false,[],false,(⟨[],[],0,false,[]⟩:Xn),false,0,[],[],p.Props⟩:Q1)).bind fun v14=>some v14)
    (cond (Q3 .gtr ((Q6 (cI .i64) p.Codes).length:Int) 0) ((Z6 N p (⟨p.Kind,false,false,0,p.ID,[],[],false,0,[],false,[],false,[],false,(⟨[],[],0,false,[]⟩:Xn),false,0,p.Codes,[],p.Props⟩:Q1)).bind fun v17=>some v17) (some false)))) (fun b=>b=true↔Qu4 v p):=fun a b=>by
   refine Au (.of hfi) ?_;refine Aw (fun g1=>?_) (fun g1=>?_)
   ·have eu:Qu1 v p=⟨p.Kind,false,false,0,p.ID,[],[],false,0,[],false,[],false,[],false,(⟨[],[],0,false,[]⟩:Xn),false,0,[],p.Filters,p.Props⟩:=by unfold Qu1;rw [g1];rfl
    have g1:=Aa g1;rw [Qy,Q4];refine Aw (fun g2=>same _ eu a b fun _ => .inr (by have:=Aa g2;omega)) (fun g2=>no fun x=>?_);have g2:=Ac g2
    have ec:p.Codes = []:=by
     have:=congrArg Q1.Codes x.1;rw [eu] at this;exact this
    rcases x.2.2.2 with y | y
    ·omega
    rw [ec,Ly] at y;omega
   have nu:=g1;have g1:=Ac g1;refine Au (.of hsi) ?_;refine Aw (fun g2=>?_) (fun g2=>?_)
   ·have g2:=Aa g2;exact same _ (by unfold Qu1;rw [nu,Ab (p:=p.Kind=9∨v=5) (by omega)];rfl) a b fun _ => .inl g2
   have g2:=Ac g2;have hv:=hK.1
   have eu:Qu1 v p=⟨p.Kind,false,false,0,p.ID,[],[],false,0,[],false,[],false,[],false,(⟨[],[],0,false,[]⟩:Xn),false,0,p.Codes,[],p.Props⟩:=by unfold Qu1;rw [nu,Ad (p:=p.Kind=9∨v=5) (by omega)];rfl
   rw [Qy,Q4];refine Aw (fun g3=>same _ eu a b fun _ => .inr (by have:=Aa g3;omega)) (fun g3=>no fun x=>?_);have g3:=Ac g3
   have ef:p.Filters = []:=by
    have:=congrArg Q1.Filters x.1;rw [eu] at this;exact this
   rcases x.2.2.2 with y | y
   ·exact g2 y
   rw [ef,Ly] at y;omega
  unfold Q0y;rw [Qd,Qy];refine Aw (fun g=>no fun x=>by have:=Aa g;have:=x.2.1;omega) (fun g1=>?_);refine Aw (fun g=>no fun x=>by have:=Aa g;have:=x.2.1;omega) (fun g2=>?_);have g1:=Ac g1;have g2:=Ac g2;refine Aw (fun g4=>?_) (fun g4=>?_)
  ·rw [Qa] at g4;have g4:=Aa g4;refine Aw (fun g5=>no fun x=>?_) (fun g5=>tail ⟨by omega,by omega⟩ fun _=>?_)
   ·rw [Qy,Q4] at g5;have:=Aa g5;rw [x.2.2.1 g4] at this;exact absurd this (by decide)
   rw [Qy,Q4] at g5;exact (e0 _).2 (by have:=Ac g5;omega)
  rw [Qa] at g4;exact tail ⟨by omega,by omega⟩ fun x=>absurd x (Ac g4)
 refine At hfl (fun b hb=>?_);refine Aw (fun g=>Q79 fun x=>by rw [hb.2 x.2] at g;cases g) (fun g=>?_);rw [Qq1 ⟨hK,hb.1 (bP g)⟩];refine Au (Q91 h p.Kind) ?_;rw [Qq];refine Aw (fun g => .ret (by rw [Af (Aa g)])) (fun g=>?_);rw [Ae (Ac g)];obtain ⟨N0,hh⟩:=Qyk h;exact ⟨_,rfl,N0,hh⟩
theorem Z6s:Tot (fun N=>Vw N v p) (Qqs v p):=by
 refine Ar ?_;have e0:∀ l:List Qb,l = []↔l.length=0:=fun l=>Mi.symm;have hf:=h.filters.1;have hc:=h.codes;have hF:∀ f∈p.Filters,Tot (fun N=>Yj N f.Topic) (Qfl f.Topic):=fun f hf=>Quy _ (by have:=h.filters.2 f hf;omega);have hO:∀ f∈p.Filters,TotP (fun N=>Yz N v p.Kind f) (fun b=>b=true↔Qmv v p.Kind f):=fun f hf=>Z7b v p.Kind f (h.filters.2 f hf);have c1:Tot (fun N=>Xf N v p N 0) (Qtt v p.Kind p.Codes):=Qmj h.codes (L1:=fun N n i=>Xf N v p n i) (fun c=>Z2w v p.Kind c) (fun _ _ _=>rfl) (fun _ _=>rfl);have c3:Tot (fun N=>Xl N v p N 0) (Qtt v p.Kind p.Codes):=Qmj h.codes (L1:=fun N n i=>Xl N v p n i) (fun c=>Z2w v p.Kind c) (fun _ _ _=>rfl) (fun _ _=>rfl);have c5:Tot (fun N=>Xg N v p N 0) (Qtt v p.Kind p.Codes):=Qmj h.codes (L1:=fun N n i=>Xg N v p n i) (fun c=>Z2w v p.Kind c) (fun _ _ _=>rfl) (fun _ _=>rfl);have f0:Tot (fun N=>Xd N v p N 0) (Qk6 v p.Kind p.Codes p.Filters):=Qq5 hf (L0:=fun N n i=>Xd N v p n i) c1 hF hO (fun _ _ _=>rfl);have f2:Tot (fun N=>Xb N v p N 0) (Qk6 v p.Kind p.Codes p.Filters):=Qq5 hf (L0:=fun N n i=>Xb N v p n i) c3 hF hO (fun _ _ _=>rfl);have f4:Tot (fun N=>Xc N v p N 0) (Qk6 v p.Kind p.Codes p.Filters):=Qq5 hf (L0:=fun N n i=>Xc N v p n i) c5 hF hO (fun _ _ _=>rfl)
 have hus:∀ N,Ga N v p=some (Qu1 v p):=fun N=>by
  unfold Ga Q1c Qu1;rw [Qa,Qa,Qa,Qa]
  by_cases h8:p.Kind=8<;>by_cases h10:p.Kind=10<;>by_cases h9:p.Kind=9<;>by_cases h5:v=5<;>simp [h8,h10,h9,h5]<;>omega
 unfold Vw;refine Au (.of fun N=>Qed N v) ?_;refine Aw (fun g=>Q79 fun x=>Ac (bN g) x.1.1) (fun gv=>?_);refine Au (v:=decide (8≤p.Kind∧p.Kind≤11)) (.of fun N=>?_) ?_
 ·unfold Q0w;rw [Wx,Xu,Bj];cases decide (p.Kind≥8)<;>rfl
 refine Aw (fun g=>Q79 fun x=>Ac (bN g) x.1.2) (fun gk=>?_);have hK:Z12 v p:=⟨Aa (bP gv),Aa (bP gk)⟩;have hk:=hK.2
 haveI:Kd p.Kind:=⟨by omega,by omega⟩
 refine Au (.of hus) ?_;refine At (Jj p (Qu1 v p) h.l) (fun b hb=>?_);refine Aw (fun g=>Q79 fun x=>by rw [hb.2 x.2.1] at g;cases g) (fun g=>?_);have hu:=hb.1 (bP g);rw [Qd,Qy];refine Aw (fun g=>Q79 fun x=>by have:=Aa g;have:=x.2.2.1;omega) (fun g1=>?_);refine Aw (fun g=>Q79 fun x=>by have:=Aa g;have:=x.2.2.1;omega) (fun g2=>?_);have g1:=Ac g1;have g2:=Ac g2
 have fin:∀ {E:Nat→Option Int},Tot E (Qk6 v p.Kind p.Codes p.Filters)→Qu4 v p→TotP (fun N=>(Q5 N v p.Kind p.Props).bind fun v18=>cond (Q3 .neq v18 0) (some v18) (E N)) (· = Qqs v p):=fun hE hG=>by
  rw [Qq1 ⟨hK,hG⟩];refine Au (Q6u h hG.2.2.1) ?_;rw [Qq];refine Aw (fun g => .ret (by rw [Af (Aa g)])) (fun g=>?_);rw [Ae (Ac g)];obtain ⟨N0,hh⟩:=hE;exact ⟨_,rfl,N0,hh⟩
 have ew:wrap .i64 (((Q6 Qg.cells p.Filters).length:Int)+((Q6 (cI .i64) p.Codes).length:Int))=((p.Filters.length+p.Codes.length:Nat):Int):=by
  rw [Q4,Q4,w64 _ (by omega)];omega
 rw [ew,Qa,Qy,Q4,Qa,Qa];refine Aw (fun g4=>?_) (fun g4=>?_)
 ·have g4:=Aa g4;refine Aw (fun g5=>Q79 fun x=>by have:=Aa g5;rw [x.2.2.2.1 g4] at this;exact absurd this (by decide)) (fun g5=>?_);have hz:p.Props = []:=(e0 _).2 (by have:=Ac g5;omega);refine Aw (fun g6=>?_) (fun g6=>fin f2 ⟨hu,by omega,fun _=>hz,.inr (by have:=Ac g6;omega)⟩);have g6:=Aa g6;refine Aw (fun g7=>fin f0 ⟨hu,by omega,fun _=>hz,.inl ⟨Aa g7,g4⟩⟩) (fun g7=>Q79 fun x=>?_)
  rcases x.2.2.2.2 with y | y
  ·exact Ac g7 y.1
  omega
 have g4:=Ac g4;refine Aw (fun g6=>?_) (fun g6=>fin f4 ⟨hu,by omega,fun x=>absurd x g4,.inr (by have:=Ac g6;omega)⟩);have g6:=Aa g6
 have nn:¬ (Z12 v p∧Qu4 v p):=fun x=>by
  rcases x.2.2.2.2 with y | y
  ·exact g4 y.2
  omega
 exact Aw (fun _=>Q79 nn) (fun _=>Q79 nn)
end
end
end Go.Av
namespace Go.Av
noncomputable section
def optN (f:Qg):Int:=f.QoS+16 * f.Handling+(if f.NoLocal then 4 else 0)+(if f.AsPublished then 8 else 0)
def Qmw (k:Int) (f:Qg):List UInt8:=Qgx f.Topic++(if k=8 then [UInt8.ofNat (wrap .u8 (optN f)).toNat] else [])
def cdB (c:Int):List UInt8 := [UInt8.ofNat (wrap .u8 c).toNat]
def Z3u (v:Int) (p:Q1):List UInt8:=((Qb4 p.ID.toNat 2++Qib v p.Kind p.Props)++p.Filters.flatMap (Qmw p.Kind))++p.Codes.flatMap cdB
noncomputable def Z3o (v:Int) (p:Q1):List UInt8×Int:=if Qqs v p=0 then (Z3u v p,0) else ([],Qqs v p)
theorem Qeo {T:Type} (g:T→List UInt8) {l:List T} {i:Nat} (hi:i<l.length):(l.take (i+1)).flatMap g=(l.take i).flatMap g++g l[i]:=by
 rw [Bs,Ld hi,List.flatMap_append];simp
theorem Zcv {v k:Int} {cs:List Int}:∀ {l:List Qg},Qk6 v k cs l=0→∀ f∈l,Qfl f.Topic=true∧Qmv v k f
 | [],_,f,hf=>nomatch hf
 | a::l,h,f,hf=>by
  have hc:=Qvo v k cs (l:=a::l) (i:=0) (Nat.zero_lt_succ _);have e:Qk6 v k cs (a::l)=Qk6 v k cs ((a::l).drop 0):=rfl;rw [e] at h
  cases h1:Qfl a.Topic with
  | false=>rw [hc.1 h1] at h;exact absurd h (by decide)
  | true=>
   by_cases h2:Qmv v k a
   ·rw [hc.2.2 h1 h2] at h
    rcases Ml.1 hf with rfl | hf
    ·exact ⟨h1,h2⟩
    exact Zcv h f hf
   rw [hc.2.1 h1 h2] at h;exact absurd h (by decide)
theorem Z45 {v:Int} {f:Qg} (h:Qmv v 8 f):(f.QoS=0∨f.QoS=1∨f.QoS=2)∧(f.Handling=0∨f.Handling=1∨f.Handling=2):=by
 unfold Qmv at h;rw [Ae (by decide)] at h;refine ⟨by have:=h.1;omega,?_⟩
 by_cases h4:v=4
 ·exact .inl (h.2.1 h4).2.2
 have:=(h.2.2 h4).1;omega
theorem Z8y {v:Int} {f:Qg} (h:Qmv v 8 f) (N:Nat):J7 N f=some (optN f):=by
 obtain ⟨hq,hh⟩:=Z45 h;unfold J7 optN;generalize f.QoS=q at hq;generalize f.Handling=w at hh;generalize f.NoLocal=a;generalize f.AsPublished=b
 rcases hq with rfl | rfl | rfl<;>rcases hh with rfl | rfl | rfl<;>cases a<;>cases b<;>decide
theorem Z93 {v:Int} {f:Qg} (h:Qmv v 8 f) (N:Nat):U8 N f=some (optN f):=by
 obtain ⟨hq,hh⟩:=Z45 h;unfold U8 Gb optN;generalize f.QoS=q at hq;generalize f.Handling=w at hh;generalize f.NoLocal=a;generalize f.AsPublished=b
 rcases hq with rfl | rfl | rfl<;>rcases hh with rfl | rfl | rfl<;>cases a<;>cases b<;>decide
theorem Qsi {s:List UInt8} (h:Qfl s=true):Vg s=true:=by
 unfold Qfl at h;simp only [La] at h;exact h.1.2
theorem Z5s {s:List UInt8} (h:Qfl s=true) (hs:s.length≤2000):Tot (fun N=>Gv N s) (Qgx s,0):=by
 refine Ar ?_;have ht:=Q96 s;rw [Qsi h] at ht;unfold Gv;refine Au ht ?_;refine Aw (fun h=>nomatch h) (fun _=>?_);refine At (V:=(· = Qgx s)) ?_ (fun b hb => .ret (by rw [hb]));unfold G5;exact Au (Q12 (s.length:Int) (by omega) 2 (by omega)) (Ax (by rw [Ln,Yv];omega) (.ret rfl))
theorem Z63 {s:List UInt8} (h:Qfl s=true) (hs:s.length≤2000):Tot (fun N=>W3 N s) (Qgx s,0):=by
 refine Ar ?_;have ht:=Q47 s;rw [Qsi h] at ht;unfold W3;refine Au ht ?_;refine Aw (fun h=>nomatch h) (fun _=>?_);exact Au (Q30 (s.length:Int) (by omega) 2 (by omega)) (Ax (by rw [Ln,Yv];omega) (.ret rfl))
theorem Qsz (l:List UInt8):(l.map fun b=>(b.toNat:Int)).map (fun n=>UInt8.ofNat n.toNat)=l:=by
 rw [List.map_map];exact (Cp fun x _=>by simp).trans (List.map_id _)
section
variable {v:Int} {p:Q1} (h:Qd0 p)
include h
theorem Z6r (l:List Int) (hl:l.length≤9000000):TotP (fun N=>Wm N p N 0 l) (· = ((l.map fun n=>UInt8.ofNat n.toNat)++p.Codes.flatMap cdB,0)):=by
 have hc:=h.codes;refine Qas (L:=fun N n (q:Int×List Int)=>Wm N p n q.1 q.2) (fun q=>∃ i:Nat,q.1=(i:Int)∧i≤p.Codes.length∧(q.2.map fun n=>UInt8.ofNat n.toNat)=(l.map fun n=>UInt8.ofNat n.toNat)++(p.Codes.take i).flatMap cdB∧q.2.length≤l.length+i) (fun q=>p.Codes.length - q.1.toNat) ?_ (0,l) ⟨0,rfl,Lm _,by simp,Lj _⟩
 rintro ⟨s,o⟩ ⟨i,h1,h2,h3,h4⟩
 simp only at h1 h3 h4
 subst h1;show Stp _ _ _ (fun N n=>cond (Q3 .lss (i:Int) ((Q6 (cI .i64) p.Codes).length:Int)) _ _);rw [Q4,Qd];refine AE (fun g=>?_) (fun g=>AA ?_)
 ·have g:i<p.Codes.length:=by have:=Aa g;omega
  refine AD (Z2 g) ?_;refine AF (by rw [Ln];dsimp only;omega) ?_;dsimp only;rw [w64 _ (by omega)];refine AB (L:=fun N n (q:Int×List Int)=>Wm N p n q.1 q.2) (((i:Int)+1),_) ⟨⟨i+1,by simp only;omega,by omega,?_,by simp only [Le,Lw];omega⟩,by simp only;omega⟩;rw [Na,h3,Qeo cdB g,Lq];rfl
 have g:i=p.Codes.length:=by have:=Ac g;omega
 dsimp only;rw [h3,g,Nj]
theorem Z92 (hall:∀ f∈p.Filters,Qfl f.Topic=true∧Qmv v p.Kind f) (l:List Int) (hl:l.length≤5000000):TotP (fun N=>Zr N p N 0 l) (· = (((l.map fun n=>UInt8.ofNat n.toNat)++p.Filters.flatMap (Qmw p.Kind))++p.Codes.flatMap cdB,0)):=by
 have hf:=h.filters;refine Qas (L:=fun N n (q:Int×List Int)=>Zr N p n q.1 q.2) (fun q=>∃ i:Nat,q.1=(i:Int)∧i≤p.Filters.length∧(q.2.map fun n=>UInt8.ofNat n.toNat)=(l.map fun n=>UInt8.ofNat n.toNat)++(p.Filters.take i).flatMap (Qmw p.Kind)∧q.2.length≤l.length+i * 2010) (fun q=>p.Filters.length - q.1.toNat) ?_ (0,l) ⟨0,rfl,Lm _,by simp,by simp⟩
 rintro ⟨s,o⟩ ⟨i,h1,h2,h3,h4⟩
 simp only at h1 h3 h4
 subst h1;show Stp _ _ _ (fun N n=>cond (Q3 .lss (i:Int) ((Q6 Qg.cells p.Filters).length:Int)) _ _);rw [Q4,Qd];refine AE (fun g=>?_) (fun g=>Az ?_)
 ·have g:i<p.Filters.length:=by have:=Aa g;omega
  have hx:=hall _ (Md g);have ht:=hf.2 _ (Md g);have hn:=Qeo (Qmw p.Kind) g;have hlb:=Yu p.Filters[i].Topic;refine AD (Z2 g) ?_;refine AC (V:=(· = (Qgx p.Filters[i].Topic,0))) ⟨_,rfl,Z5s hx.1 ht⟩ (fun w hw=>?_);subst hw;dsimp only;refine AE (fun gz=>?_) (fun _=>?_)
  ·have:=No gz;omega
  refine AF (by rw [Ln];omega) ?_
  have ei:wrap .i64 ((i:Int)+1)=((i+1:Nat):Int):=by rw [w64 _ (by omega)];omega
  rw [ei,Qa];refine AE (fun g8=>?_) (fun g8=>?_)
  ·have g8:=Aa g8;refine AC (V:=(· = optN p.Filters[i])) ⟨_,rfl,.of fun N=>Z8y (v:=v) (by rw [← g8];exact hx.2) N⟩ (fun w hw=>?_);subst hw;refine AF (by rw [Ln];omega) ?_;refine AB (L:=fun N n (q:Int×List Int)=>Zr N p n q.1 q.2) (_,_) ⟨⟨i+1,rfl,by omega,?_,by simp only [Le,Lw,Mm];omega⟩,by simp only [Lt];omega⟩;rw [Na,Na,h3,Qsz,hn];unfold Qmw;rw [Af g8];simp only [Lq];rfl
  have g8:=Ac g8;refine AB (L:=fun N n (q:Int×List Int)=>Zr N p n q.1 q.2) (_,_) ⟨⟨i+1,rfl,by omega,?_,by simp only [Le,Mm];omega⟩,by simp only [Lt];omega⟩;rw [Na,h3,Qsz,hn];unfold Qmw;rw [Ae g8,Lu,Lq]
 have g:i=p.Filters.length:=by have:=Ac g;omega
 refine (Z6r h o (by omega)).mono fun w hw=>?_;rw [hw,h3,g,Nj]
theorem Qzv (h0:Qqs v p=0):Z12 v p∧Qu4 v p∧Q6x p.Kind [] p.Props=0∧(∀ f∈p.Filters,Qfl f.Topic=true∧Qmv v p.Kind f):=by
 by_cases a:Z12 v p∧Qu4 v p
 ·rw [Qq1 a] at h0
  by_cases b:Q6x p.Kind [] p.Props≠0
  ·rw [Af b] at h0;exact absurd h0 b
  rw [Ae b] at h0;exact ⟨a.1,a.2,Decidable.byContradiction b,Zcv h0⟩
 unfold Qqs at h0;rw [Ae a] at h0;exact absurd h0 (by decide)
theorem Z7q:Tot (fun N=>Q0i N v p) (Z3o v p):=by
 refine Ar ?_;unfold Q0i Z3o;refine Au (Z7g h) ?_;rw [Qq];refine Aw (fun g => .ret (by rw [Ae (Aa g)])) (fun g=>?_);have h0:Qqs v p=0:=Decidable.byContradiction fun x=>Ac g x;obtain ⟨hK,hG,hl0,hall⟩:=Qzv h h0;rw [Af h0];have hk:=hK.2;have hid:=hG.2.1
 haveI:Kd p.Kind:=⟨by omega,by omega⟩
 have b2:=Yv 2 p.ID.toNat;have hw:=Qdk (k:=p.Kind) h.props.len;refine Au (Q12 p.ID (by omega) 2 (by omega)) ?_;unfold Z3u J2;rw [Qa]
 have fin:∀ l:List Int,l.length≤5000000→(l.map fun n=>UInt8.ofNat n.toNat)=Qb4 p.ID.toNat 2++Qib v p.Kind p.Props→TotP (fun N=>Zr N p N 0 l) (· = (((Qb4 p.ID.toNat 2++Qib v p.Kind p.Props)++p.Filters.flatMap (Qmw p.Kind))++p.Codes.flatMap cdB,0)):=fun l h1 h2=>by
  rw [← h2];exact Z92 h hall l h1
 refine Aw (fun g5=>?_) (fun g5=>fin _ (by rw [Mm];omega) ?_)
 ·have g5:=Aa g5
  have et:Qib v p.Kind p.Props=(Qhg p.Kind p.Props).1:=by unfold Qib;rw [Ae (by omega)]
  refine Au (Q9d _ h.props.len h.props.txt) ?_;refine Aw (fun gz=>fin _ (by rw [Mm];omega) ?_) (fun _=>?_)
  ·have:(Qhg p.Kind p.Props).1 = []:=Mi.1 (No gz);rw [Qsz,et,this,Lu]
  refine Ax (by rw [Ln];omega) (fin _ (by rw [Le,Mm,Mm];omega) ?_);rw [Na,Qsz,Qsz,et]
 have g5:=Ac g5;rw [Qsz];unfold Qib;rw [Af (hK.1.resolve_right g5),Lu]
theorem Z4b (l:List UInt8) (hl:l.length≤9000000):TotP (fun N=>X3 N p N l 0) (· = (l++p.Codes.flatMap cdB,0)):=by
 have hc:=h.codes;refine Qas (L:=fun N n (q:List UInt8×Int)=>X3 N p n q.1 q.2) (fun q=>∃ i:Nat,q.2=(i:Int)∧i≤p.Codes.length∧q.1=l++(p.Codes.take i).flatMap cdB∧q.1.length≤l.length+i) (fun q=>p.Codes.length - q.2.toNat) ?_ (l,0) ⟨0,rfl,Lm _,by simp,Lj _⟩
 rintro ⟨o,s⟩ ⟨i,h1,h2,h3,h4⟩
 simp only at h1 h3 h4
 subst h1;show Stp _ _ _ (fun N n=>cond (Q3 .lss (i:Int) ((Q6 (cI .i64) p.Codes).length:Int)) _ _);rw [Q4,Qd];refine AE (fun g=>?_) (fun g=>AA ?_)
 ·have g:i<p.Codes.length:=by have:=Aa g;omega
  refine AD (Z2 g) ?_;refine AF (by rw [Ln];simp only [Lw];omega) ?_;dsimp only;rw [w64 _ (by omega)];refine AB (L:=fun N n (q:List UInt8×Int)=>X3 N p n q.1 q.2) (_,((i:Int)+1)) ⟨⟨i+1,by simp only;omega,by omega,?_,by simp only [Le,Lw];omega⟩,by simp only;omega⟩;rw [h3,Qeo cdB g,Lq];rfl
 have g:i=p.Codes.length:=by have:=Ac g;omega
 dsimp only;rw [h3,g,Nj]
theorem Z99 (hall:∀ f∈p.Filters,Qfl f.Topic=true∧Qmv v p.Kind f) (l:List UInt8) (hl:l.length≤5000000):TotP (fun N=>Zx N p N l 0) (· = ((l++p.Filters.flatMap (Qmw p.Kind))++p.Codes.flatMap cdB,0)):=by
 have hf:=h.filters;refine Qas (L:=fun N n (q:List UInt8×Int)=>Zx N p n q.1 q.2) (fun q=>∃ i:Nat,q.2=(i:Int)∧i≤p.Filters.length∧q.1=l++(p.Filters.take i).flatMap (Qmw p.Kind)∧q.1.length≤l.length+i * 2010) (fun q=>p.Filters.length - q.2.toNat) ?_ (l,0) ⟨0,rfl,Lm _,by simp,by simp⟩
 rintro ⟨o,s⟩ ⟨i,h1,h2,h3,h4⟩
 simp only at h1 h3 h4
 subst h1;show Stp _ _ _ (fun N n=>cond (Q3 .lss (i:Int) ((Q6 Qg.cells p.Filters).length:Int)) _ _);rw [Q4,Qd];refine AE (fun g=>?_) (fun g=>Az ?_)
 ·have g:i<p.Filters.length:=by have:=Aa g;omega
  have hx:=hall _ (Md g);have ht:=hf.2 _ (Md g);have hn:=Qeo (Qmw p.Kind) g;have hlb:=Yu p.Filters[i].Topic;refine AD (Z2 g) ?_;refine AC (V:=(· = (Qgx p.Filters[i].Topic,0))) ⟨_,rfl,Z63 hx.1 ht⟩ (fun w hw=>?_);subst hw;dsimp only;refine AF (by rw [Ln];omega) ?_
  have ei:wrap .i64 ((i:Int)+1)=((i+1:Nat):Int):=by rw [w64 _ (by omega)];omega
  rw [ei,Qa];refine AE (fun g8=>?_) (fun g8=>?_)
  ·have g8:=Aa g8;refine AD (Z2 g) ?_;refine AC (V:=(· = optN p.Filters[i])) ⟨_,rfl,.of fun N=>Z93 (v:=v) (by rw [← g8];exact hx.2) N⟩ (fun w hw=>?_);subst hw;refine AF (by rw [Ln];simp only [Le,Lw];omega) ?_;refine AB (L:=fun N n (q:List UInt8×Int)=>Zx N p n q.1 q.2) (_,_) ⟨⟨i+1,rfl,by omega,?_,by simp only [Le,Lw];omega⟩,by simp only [Lt];omega⟩;rw [h3,hn];unfold Qmw;rw [Af g8];simp only [Lq]
  have g8:=Ac g8;refine AB (L:=fun N n (q:List UInt8×Int)=>Zx N p n q.1 q.2) (_,_) ⟨⟨i+1,rfl,by omega,?_,by simp only [Le];omega⟩,by simp only [Lt];omega⟩;rw [h3,hn];unfold Qmw;rw [Ae g8,Lu,Lq]
 have g:i=p.Filters.length:=by have:=Ac g;omega
 refine (Z4b h o (by omega)).mono fun w hw=>?_;rw [hw,h3,g,Nj]
theorem Z8u:Tot (fun N=>Gd N v p) (Z3o v p):=by
 refine Ar ?_;unfold Gd Z3o;refine Au (Z6s h) ?_;rw [Qq];refine Aw (fun g => .ret (by rw [Ae (Aa g)])) (fun g=>?_);have h0:Qqs v p=0:=Decidable.byContradiction fun x=>Ac g x;obtain ⟨hK,hG,hl0,hall⟩:=Qzv h h0;rw [Af h0];have hk:=hK.2;have hid:=hG.2.1
 haveI:Kd p.Kind:=⟨by omega,by omega⟩
 have b2:=Yv 2 p.ID.toNat;have t1:=Q4r h (v:=v) (k:=p.Kind) h.props;refine Au (Q30 p.ID (by omega) 2 (by omega)) ?_;refine Au (v:=Qib v p.Kind p.Props) (Qql hK.1 _ h.props.len h.props.txt) ?_;refine Ax (by rw [Ln];omega) ?_;exact Z99 h hall _ (by rw [Le];omega)
end
end
end Go.Av
namespace Go.Av
noncomputable section
def Q9j (v k:Int):Prop:=k<1∨15<k∨(k=15∧v=4)
open Classical in
noncomputable def mqE (v:Int) (p:Q1):Int:=if v=4∨v=5 then (if Q9j v p.Kind then 8 else if p.Kind≤2 then Qti v p else if p.Kind=3 then Qii v p else if p.Kind≤7 then Qrw v p else if p.Kind≤11 then Qqs v p else Ql3 v p) else 2
def mqY (v:Int) (p:Q1):List UInt8:=if p.Kind≤2 then Qhu v p else if p.Kind=3 then Z3t v p else if p.Kind≤7 then Qb4 p.ID.toNat 2++Qq9 p.Kind p.Code p.Props else if p.Kind≤11 then Z3u v p else Qq9 p.Kind p.Code p.Props
def Q1m (e:Int) (y:List UInt8):List UInt8×Int:=if e=0 then (y,0) else ([],e)
section
variable {v:Int} {p:Q1} (h:Qd0 p)
include h
theorem Qxs:(Qhu v p).length≤20000000:=by
 have l1:=h.client;have l2:=h.user;have l3:=h.pass;have l4:=h.wtopic;have l5:=h.wpayload;have b1:=fun n=>Yv 1 n;have b2:=fun n=>Yv 2 n;have t1:=Q4r h (v:=v) (k:=p.Kind) h.props;have t2:=Q4r h (v:=v) (k:=16) h.wprops;have d1:=Yu p.Client;have d2:=Yu p.User;have d3:=Yu p.Pass;have d4:=Yu p.Will.Topic;have d5:=Yu p.Will.Payload;unfold Qhu;cases decide (p.Kind=2)<;>cases p.HasWill<;>cases p.HasUser<;>cases p.HasPass<;>simp only [Ai,Ah,Le,Li,Ly,b1,b2,d1,d2,d3,d4,d5]<;>omega
theorem Qyx:(Z3u v p).length≤20000000:=by
 have hf:=h.filters;have hc:=h.codes;have b2:=Yv 2 p.ID.toNat;have t1:=Q4r h (v:=v) (k:=p.Kind) h.props
 have f1:∀ l:List Qg,(∀ f∈l,f.Topic.length≤2000)→(l.flatMap (Qmw p.Kind)).length≤l.length * 2010:=fun l hl=>by
  induction l with
  | nil=>exact Lm _
  | cons a l ih=>
   have:=ih fun f hf=>hl f (Nm _ hf);have ha:=hl a Ns;have:=Yu a.Topic;rw [Bb,Le,Li]
   have:(Qmw p.Kind a).length≤2003:=by
    unfold Qmw;rw [Le];split
    ·simp only [Lw];omega
    simp only [Ly];omega
   omega
 have c1:∀ l:List Int,(l.flatMap cdB).length=l.length:=fun l=>by
  induction l with
  | nil=>rfl
  | cons a l ih=>rw [Bb,Le,Li,ih];show 1+_=_;omega
 have:=f1 p.Filters hf.2;have:=c1 p.Codes;unfold Z3u;rw [Le,Le,Le];omega
theorem Qlx:(mqY v p).length≤20000000:=by
 unfold mqY;split
 ·exact Qxs h
 split
 ·have l1:=h.topic;have l2:=h.payload;have b2:=Yv 2 p.ID.toNat;have d1:=Yu p.Topic;have t1:=Q4r h (v:=v) (k:=3) h.props;unfold Z3t
  split<;>simp only [Le,Ly]<;>omega
 split
 ·have:=Qlr h (k:=p.Kind) (c:=p.Code);have b2:=Yv 2 p.ID.toNat;rw [Le];omega
 split
 ·exact Qyx h
 have:=Qlr h (k:=p.Kind) (c:=p.Code);omega
theorem Qpl {D:Nat→Option (List UInt8×Int)} {e:Int} {y:List UInt8} (hy:y.length≤20000000) (hD:Tot D (Q1m e y)):TotP (fun N=>((D N).bind fun v1=>some (v1.1,v1.2)).bind fun v10=>cond (Q3 .neq v10.2 0) (some ([],v10.2)) (cond (Q3 .gtr (v10.1.length:Int) 268435455) (some ([],4)) (some (v10.1,0)))) (· = Q1m e y):=by
 refine At (V:=(· = Q1m e y)) (Au hD (.ret rfl)) (fun w hw=>?_);subst hw;unfold Q1m;rw [Qq]
 by_cases g:e=0
 ·rw [Af g];refine Aw (fun x=>nomatch x) (fun _=>?_);rw [Qy];exact Aw (fun x=>absurd (Aa x) (by dsimp only;omega)) (fun _ => .ret rfl)
 rw [Ae g];exact Aw (fun _ => .ret rfl) (fun x=>absurd (Decidable.byContradiction fun y=>Ac x y) g)
theorem mq1 (hv:v=4∨v=5) (hk:¬ Q9j v p.Kind) (h1:p.Kind≤2):Q1m (mqE v p) (mqY v p)=Z3r v p:=by
 unfold Q1m mqE mqY Z3r;rw [Af hv,Ae hk,Af h1,Af h1]
theorem mq3 (hv:v=4∨v=5) (h1:p.Kind=3):Q1m (mqE v p) (mqY v p)=Z3q v p:=by
 have hk:¬ Q9j v p.Kind:=by unfold Q9j;omega
 unfold Q1m mqE mqY Z3q
 have a:¬ p.Kind≤2:=by omega
 rw [Af hv,Ae hk,Ae a,Ae a,Af h1,Af h1]
theorem mq4 (hv:v=4∨v=5) (h1:4≤p.Kind∧p.Kind≤7):Q1m (mqE v p) (mqY v p)=Z3p v p:=by
 have hk:¬ Q9j v p.Kind:=by unfold Q9j;omega
 unfold Q1m mqE mqY Z3p
 have a:¬ p.Kind≤2:=by omega
 have b:¬ p.Kind=3:=by omega
 rw [Af hv,Ae hk,Ae a,Ae a,Ae b,Ae b,Af h1.2,Af h1.2]
theorem mq8 (hv:v=4∨v=5) (h1:8≤p.Kind∧p.Kind≤11):Q1m (mqE v p) (mqY v p)=Z3o v p:=by
 have hk:¬ Q9j v p.Kind:=by unfold Q9j;omega
 unfold Q1m mqE mqY Z3o
 have a:¬ p.Kind≤2:=by omega
 have b:¬ p.Kind=3:=by omega
 have c:¬ p.Kind≤7:=by omega
 rw [Af hv,Ae hk,Ae a,Ae a,Ae b,Ae b,Ae c,Ae c,Af h1.2,Af h1.2]
theorem Zn8 (hv:v=4∨v=5) (hk:¬ Q9j v p.Kind) (h1:12≤p.Kind):Q1m (mqE v p) (mqY v p)=Z3w v p:=by
 unfold Q1m mqE mqY Z3w
 have a:¬ p.Kind≤2:=by omega
 have b:¬ p.Kind=3:=by omega
 have c:¬ p.Kind≤7:=by omega
 have d:¬ p.Kind≤11:=by omega
 rw [Af hv,Ae hk,Ae a,Ae a,Ae b,Ae b,Ae c,Ae c,Ae d,Ae d]
theorem Z4d (hv:v=4∨v=5) (hk:Q9j v p.Kind):Q1m (mqE v p) (mqY v p)=([],8):=by
 unfold Q1m mqE;rw [Af hv,Af hk,Ae (by decide)]
theorem Zf9 (hv:¬ (v=4∨v=5)):Q1m (mqE v p) (mqY v p)=([],2):=by
 unfold Q1m mqE;rw [Ae hv,Ae (by decide)]
theorem Z0b (hv:v=4∨v=5):TotP (fun N=>Q16 N v p false) (· = Q1m (mqE v p) (mqY v p)):=by
 have hl:=Qlx h (v:=v)
 have c1:¬ Q9j v p.Kind→p.Kind≤2→Tot (fun N=>Q2a N v p) (Q1m (mqE v p) (mqY v p)):=fun a b=>by rw [mq1 h hv a b];exact Z8w h
 have c3:p.Kind=3→Tot (fun N=>Q29 N v p) (Q1m (mqE v p) (mqY v p)):=fun a=>by rw [mq3 h hv a];exact Z98 h
 have c4:(4≤p.Kind∧p.Kind≤7)→Tot (fun N=>Q6w N v p) (Q1m (mqE v p) (mqY v p)):=fun a=>by rw [mq4 h hv a];exact Z96 h v
 have c8:(8≤p.Kind∧p.Kind≤11)→Tot (fun N=>Q0i N v p) (Q1m (mqE v p) (mqY v p)):=fun a=>by rw [mq8 h hv a];exact Z7q h
 have c12:¬ Q9j v p.Kind→12≤p.Kind→Tot (fun N=>Q2b N v p) (Q1m (mqE v p) (mqY v p)):=fun a b=>by rw [Zn8 h hv a b];exact Z8h h
 by_cases hr:1≤p.Kind∧p.Kind≤15
 ·have hk:p.Kind=1∨p.Kind=2∨p.Kind=3∨p.Kind=4∨p.Kind=5∨p.Kind=6∨p.Kind=7∨p.Kind=8∨p.Kind=9∨p.Kind=10∨p.Kind=11∨p.Kind=12∨p.Kind=13∨p.Kind=14∨p.Kind=15:=by omega
  unfold Q16
  rcases hk with e | e | e | e | e | e | e | e | e | e | e | e | e | e | e
  ·have:=Qpl h hl (c1 (by unfold Q9j;omega) (by omega));rw [e];exact this
  ·have:=Qpl h hl (c1 (by unfold Q9j;omega) (by omega));rw [e];exact this
  ·have:=Qpl h hl (c3 e);rw [e];exact this
  ·have:=Qpl h hl (c4 (by omega));rw [e];exact this
  ·have:=Qpl h hl (c4 (by omega));rw [e];exact this
  ·have:=Qpl h hl (c4 (by omega));rw [e];exact this
  ·have:=Qpl h hl (c4 (by omega));rw [e];exact this
  ·have:=Qpl h hl (c8 (by omega));rw [e];exact this
  ·have:=Qpl h hl (c8 (by omega));rw [e];exact this
  ·have:=Qpl h hl (c8 (by omega));rw [e];exact this
  ·have:=Qpl h hl (c8 (by omega));rw [e];exact this
  ·have:=Qpl h hl (c12 (by unfold Q9j;omega) (by omega));rw [e];exact this
  ·have:=Qpl h hl (c12 (by unfold Q9j;omega) (by omega));rw [e];exact this
  ·have:=Qpl h hl (c12 (by unfold Q9j;omega) (by omega));rw [e];exact this
  by_cases h4:v=4
  ·have:=Z4d h hv (show Q9j v p.Kind from .inr (.inr ⟨e,h4⟩));rw [this,e,h4];exact .ret rfl
  have:=Qpl h hl (c12 (by unfold Q9j;omega) (by omega));rw [e];have e5:v=5:=hv.resolve_left h4;subst e5;exact this
 have:=Z4d h hv (show Q9j v p.Kind by unfold Q9j;omega);rw [this]
 have f:∀ j:Int,p.Kind≠j→((p.Kind:Int) == j)=false:=fun j x=>by simp;exact x
 unfold Q16;rw [f 1 (by omega),f 2 (by omega),f 3 (by omega),f 4 (by omega),f 5 (by omega),f 6 (by omega),f 7 (by omega),f 8 (by omega),f 9 (by omega),f 10 (by omega),f 11 (by omega),f 12 (by omega),f 13 (by omega),f 14 (by omega),f 15 (by omega)];exact .ret rfl
theorem Z0j:Tot (fun N=>Q5q N v p) (Q1m (mqE v p) (mqY v p)):=by
 refine Ar ?_;unfold Q5q;rw [Qq,Qq]
 by_cases hv:v=4∨v=5
 ·have e:decide (v≠4)=true→decide (v≠5)=false:=fun x=>by have:=Aa x;exact Ab (by omega)
  refine Aw (fun g=>?_) (fun _=>Z0b h hv);rw [e g];exact Z0b h hv
 rw [Zf9 h hv];refine Aw (fun g=>?_) (fun g=>absurd (.inl (Decidable.byContradiction fun x=>Ac g x)) hv);rw [Ad (by omega)];exact .ret rfl
theorem Qw9:Tot (fun N=>Q1n N v p) (mqE v p):=by
 refine Ar ?_;unfold Q1n;refine Au (Z0j h) (.ret ?_);unfold Q1m;split
 ·rename_i g;exact g.symm
 rfl
theorem Z2l (hv:v=4∨v=5) (hk:¬ Q9j v p.Kind):Tot (fun N=>Wp N v p) (mqE v p):=by
 refine Ar ?_;have e:∀ {x:Int},TotP (fun _=>some x) (· = x) := .ret rfl;unfold Wp mqE;rw [Af hv,Ae hk,Xu,Qa,Xu,Xu];refine Aw (fun g=>?_) (fun g=>?_)
 ·rw [Af (Aa g)];exact Au (Z4k h) e
 rw [Ae (Ac g)];refine Aw (fun g=>?_) (fun g=>?_)
 ·rw [Af (Aa g)];exact Au (Z3y h) e
 rw [Ae (Ac g)];refine Aw (fun g=>?_) (fun g=>?_)
 ·rw [Af (Aa g)];exact Au (Z6w h v) e
 rw [Ae (Ac g)];refine Aw (fun g=>?_) (fun g=>?_)
 ·rw [Af (Aa g)];exact Au (Z6s h) e
 rw [Ae (Ac g)];exact Au (Z66 h) e
theorem Z5v (hv:v=4∨v=5) (hk:¬ Q9j v p.Kind) (h0:mqE v p=0):Tot (fun N=>V6 N v p) (mqY v p):=by
 refine Ar ?_
 have ep:Q1m (mqE v p) (mqY v p)=(mqY v p,0):=by unfold Q1m;rw [Af h0]
 have hkb:=hk;unfold Q9j at hkb;unfold V6;rw [Xu,Qa,Xu,Xu];refine Aw (fun g=>?_) (fun g=>?_)
 ·have:=Z8i h (v:=v);rw [← mq1 h hv hk (Aa g),ep] at this;exact Au this (.ret rfl)
 have g1:=Ac g;refine Aw (fun g=>?_) (fun g=>?_)
 ·have:=Z8o h (v:=v);rw [← mq3 h hv (Aa g),ep] at this;exact Au this (.ret rfl)
 have g2:=Ac g;refine Aw (fun g=>?_) (fun g=>?_)
 ·have:=Z7x h v;rw [← mq4 h hv ⟨by omega,Aa g⟩,ep] at this;exact Au this (.ret rfl)
 have g3:=Ac g;refine Aw (fun g=>?_) (fun g=>?_)
 ·have:=Z8u h (v:=v);rw [← mq8 h hv ⟨by omega,Aa g⟩,ep] at this;exact Au this (.ret rfl)
 have g4:=Ac g;have:=Z8g h (v:=v);rw [← Zn8 h hv hk (by omega),ep] at this;exact Au this (.ret rfl)
theorem Quw:Tot (fun N=>Vp N v p) (Q1m (mqE v p) (mqY v p)):=by
 refine Ar ?_;unfold Vp;refine Au (.of fun N=>Qed N v) ?_;refine Aw (fun g => .ret (Zf9 h (Ac (bN g))).symm) (fun gv=>?_);have hv:=Aa (bP gv);rw [Qd,Qy,Qa,Qa];refine Aw (fun g => .ret (Z4d h hv (.inl (Aa g))).symm) (fun g1=>?_);refine Aw (fun g => .ret (Z4d h hv (.inr (.inl (Aa g)))).symm) (fun g2=>?_);have g1:=Ac g1;have g2:=Ac g2
 have fin:¬ Q9j v p.Kind→TotP (fun N=>(Wp N v p).bind fun v14=>cond (Q3 .neq v14 0) (some ([],v14)) ((V6 N v p).bind fun v17=>cond (Q3 .gtr (v17.length:Int) 268435455) (some ([],4)) (some (v17,0)))) (· = Q1m (mqE v p) (mqY v p)):=fun hk=>by
  refine Au (Z2l h hv hk) ?_;rw [Qq];unfold Q1m;refine Aw (fun g => .ret (by rw [Ae (Aa g)])) (fun g=>?_);have h0:mqE v p=0:=Decidable.byContradiction fun x=>Ac g x;rw [Af h0];refine Au (Z5v h hv hk h0) ?_;have:=Qlx h (v:=v);rw [Qy];exact Aw (fun x=>absurd (Aa x) (by omega)) (fun _ => .ret rfl)
 refine Aw (fun g5=>?_) (fun g5=>fin (by have:=Ac g5;unfold Q9j;omega));refine Aw (fun g4 => .ret (Z4d h hv (.inr (.inr ⟨Aa g5,Aa g4⟩))).symm) (fun g4=>fin (by have:=Ac g4;unfold Q9j;omega))
theorem Z4h:Tot (fun N=>Vu N v p) (mqE v p):=by
 refine Ar ?_;unfold Vu;refine Au (Quw h) (.ret ?_);unfold Q1m;split
 ·rename_i g;exact g.symm
 rfl
end
end
end Go.Av
namespace Go.Av
noncomputable section
def hdF (p:Q1):Int:=if p.Kind=3 then Qz9 p else if p.Kind=6∨p.Kind=8∨p.Kind=10 then 2 else 0
def hdB (p:Q1) (n:Nat):List UInt8:=UInt8.ofNat (16 * p.Kind+hdF p).toNat::vb n
section
variable {v:Int} {p:Q1}
theorem Z7t (d r:Bool) (q:Int) (hq:q=0∨q=1∨q=2) (hd:q=0→d=false):(0≤2 * q+(if r then 1 else 0)+(if d then 8 else 0)∧2 * q+(if r then 1 else 0)+(if d then 8 else 0)≤15)∧(∀ N,Gt N 3 (2 * q+(if r then 1 else 0)+(if d then 8 else 0))=some true)∧(∀ N,Xp N 3 (2 * q+(if r then 1 else 0)+(if d then 8 else 0))=some true):=by
 refine ⟨by cases d<;>cases r<;>simp<;>omega,fun N=>?_,fun N=>?_⟩
 ·have e:∀ x,Gt N 3 x=Gt 0 3 x:=fun _=>rfl;rw [e]
  rcases hq with rfl | rfl | rfl<;>cases d<;>cases r<;>first | exact absurd (hd rfl) (by decide) | decide
 have e:∀ x,Xp N 3 x=Xp 0 3 x:=fun _=>rfl;rw [e]
 rcases hq with rfl | rfl | rfl<;>cases d<;>cases r<;>first | exact absurd (hd rfl) (by decide) | decide
theorem Z54 (hk:1≤p.Kind∧p.Kind≤15) (hq:p.Kind=3→Qdp p):0≤hdF p∧hdF p≤15:=by
 unfold hdF;split
 ·rename_i h3;have:=hq h3;exact (Z7t p.Dup p.Retain p.QoS (by have:=this.1;omega) this.2).1
 split<;>omega
theorem Z18 (N:Nat) (h3:p.Kind≠3):Q4i N p.Kind=some (hdF p):=by
 unfold Q4i hdF;rw [Ae h3,Qa,Qa,Qa]
 by_cases a:p.Kind=6<;>by_cases b:p.Kind=8<;>by_cases c:p.Kind=10<;>simp [a,b,c]
theorem Z16 (N:Nat) (hv:v=4∨v=5) (hk:¬ Q9j v p.Kind):Q46 N v p.Kind=some true:=by
 unfold Q9j at hk;unfold Q46;rw [Qa,Wx,Xu,Xu,Ad (p:=p.Kind≥1) (by omega)]
 rcases hv with rfl | rfl
 ·show some (decide (p.Kind≤14))=_;rw [Ad (by omega)]
 show some (decide (p.Kind≤15))=_;rw [Ad (by omega)]
theorem Z3f (hv:v=4∨v=5) (hk:¬ Q9j v p.Kind) (hq:p.Kind=3→Qdp p):Tot (fun N=>Q0u N v p) (hdF p,0):=by
 by_cases h3:p.Kind=3
 ·have:=Qwq (v:=v) (p:=p) ⟨hv,h3⟩;rw [Af (hq h3)] at this;unfold hdF;rw [Af h3];exact this
 refine Ar ?_;unfold Q0u;refine Au (v:=true) (.of fun N=>(Qed N v).trans (by rw [Ad hv])) ?_;refine Aw (fun g=>nomatch g) (fun _=>?_);refine Au (.of fun N=>Z16 N hv hk) ?_;refine Aw (fun g=>nomatch g) (fun _=>?_);rw [Qq];refine Aw (fun _=>?_) (fun g=>absurd (Decidable.byContradiction fun x=>Ac g x) h3);exact Au (.of fun N=>Z18 N h3) (.ret rfl)
theorem Z0t (N:Nat) (hv:v=4∨v=5) (hk:¬ Q9j v p.Kind):Um N v p.Kind=some true:=by
 unfold Q9j at hk;unfold Um;rw [Wx,Qd,Qa,Qa,Ad (p:=p.Kind≥1) (by omega)]
 by_cases a:p.Kind<15
 ·rw [Ad a];rfl
 rw [Ab a,Ad (p:=p.Kind=15) (by omega),Ad (p:=v=5) (by omega)];rfl
theorem Z1a (hv:v=4∨v=5) (hk:¬ Q9j v p.Kind) (hq:p.Kind=3→Qdp p):Tot (fun N=>Xo N v p) (hdF p,0):=by
 by_cases h3:p.Kind=3
 ·have:=Qv2 (v:=v) (p:=p) ⟨hv,h3⟩;rw [Af (hq h3)] at this;unfold hdF;rw [Af h3];exact this
 refine Ar ?_;unfold Xo hdF;rw [Ae h3];refine Au (v:=true) (.of fun N=>(Qed N v).trans (by rw [Ad hv])) ?_;refine Aw (fun g=>nomatch g) (fun _=>?_);refine Au (.of fun N=>Z0t N hv hk) ?_;refine Aw (fun g=>nomatch g) (fun _=>?_);rw [Qa,Qa,Qa,Qa];refine Aw (fun g => .ret (by rw [Af (.inl (Aa g))])) (fun g1=>?_);refine Aw (fun g => .ret (by rw [Af (.inr (.inl (Aa g)))])) (fun g2=>?_);refine Aw (fun g => .ret (by rw [Af (.inr (.inr (Aa g)))])) (fun g3=>?_);have g1:=Ac g1;have g2:=Ac g2;have g3:=Ac g3;refine Aw (fun g=>absurd (Aa g) h3) (fun _ => .ret ?_);rw [Ae (by omega)]
theorem Zwk (k f:Int) (hk:1≤k∧k≤15) (hf:0≤f∧f≤15):wrap .u64 (orI .i64 (Qb3 .i64 k 4) f)=wrap .u64 (16 * k+f):=by
 have all:∀ k:Fin 16,∀ f:Fin 16,wrap .u64 (orI .i64 (Qb3 .i64 ((k.val:Nat):Int) 4) ((f.val:Nat):Int))=wrap .u64 (16 * ((k.val:Nat):Int)+((f.val:Nat):Int)):=by decide +kernel
 have:=all ⟨k.toNat,by omega⟩ ⟨f.toNat,by omega⟩
 rwa [show ((k.toNat:Nat):Int)=k by omega,show ((f.toNat:Nat):Int)=f by omega] at this
theorem Z5z (hv:v=4∨v=5) (hk:¬ Q9j v p.Kind) (hq:p.Kind=3→Qdp p) (n:Nat) (hn:n≤268435455):Tot (fun N=>Q6b N v ⟨p.Kind,hdF p,(n:Int)⟩) (hdB p n,0):=by
 have hr:1≤p.Kind∧p.Kind≤15:=by unfold Q9j at hk;omega
 have hb:=Z54 hr hq;have hl:=Qpv hn;refine Ar ?_;unfold Q6b;refine Au (v:=0) (Ar ?_) ?_
 ·unfold Q7z;refine Au (v:=true) (.of fun N=>(Qed N v).trans (by rw [Ad hv])) ?_;refine Aw (fun g=>nomatch g) (fun _=>?_);refine Au (.of fun N=>Z16 N hv hk) ?_;refine Aw (fun g=>nomatch g) (fun _=>?_);refine Au (v:=true) (.of fun N=>?_) ?_
  ·by_cases h3:p.Kind=3
   ·have hqq:=hq h3;have:=(Z7t p.Dup p.Retain p.QoS (by have:=hqq.1;omega) hqq.2).2.1 N;show Gt N p.Kind (hdF p)=_;unfold hdF;rw [Af h3,h3];exact this
   unfold Gt;rw [Qq,Ad h3,Z18 N h3];show some (Q3 .eql (hdF p) (hdF p))=_;rw [Qa,Ad rfl]
  refine Aw (fun g=>nomatch g) (fun _=>?_);refine At (Qvl n hn) (fun w hw=>?_);rw [Qa];exact Aw (fun g=>absurd (Aa g) (by omega)) (fun _ => .ret rfl)
 refine Aw (fun g=>nomatch g) (fun _=>?_);refine Au (Qmd n hn) ?_;have hp:=Q12 (16 * p.Kind+hdF p) (by omega) 1 (by omega);rw [← Zwk p.Kind (hdF p) hr hb] at hp;refine Au hp ?_;refine Ax (by rw [Ln,Yv];dsimp only;omega) (.ret ?_);show ([UInt8.ofNat ((16 * p.Kind+hdF p).toNat % 256)]++vb n,(0:Int))=_;rw [show (16 * p.Kind+hdF p).toNat % 256=(16 * p.Kind+hdF p).toNat by omega];rfl
theorem Z59 (hv:v=4∨v=5) (hk:¬ Q9j v p.Kind) (hq:p.Kind=3→Qdp p) (n:Nat) (hn:n≤268435455):Tot (fun N=>Jh N v ⟨p.Kind,hdF p,(n:Int)⟩) (hdB p n,0):=by
 have hr:1≤p.Kind∧p.Kind≤15:=by unfold Q9j at hk;omega
 have hb:=Z54 hr hq;have hl:=Qpv hn;refine Ar ?_;unfold Jh;refine Au (v:=0) (Ar ?_) ?_
 ·unfold Q0o;refine Au (v:=true) (.of fun N=>(Qed N v).trans (by rw [Ad hv])) ?_;refine Aw (fun g=>nomatch g) (fun _=>?_);refine Au (.of fun N=>Z0t N hv hk) ?_;refine Aw (fun g=>nomatch g) (fun _=>?_);refine Au (v:=true) (.of fun N=>?_) ?_
  ·by_cases h3:p.Kind=3
   ·have hqq:=hq h3;have:=(Z7t p.Dup p.Retain p.QoS (by have:=hqq.1;omega) hqq.2).2.2 N;show Xp N p.Kind (hdF p)=_;unfold hdF;rw [Af h3,h3];exact this
   unfold Xp hdF;dsimp only;rw [Ae h3];simp only [Qa,Ab h3,Ah]
   by_cases a:p.Kind=6<;>by_cases b:p.Kind=8<;>by_cases c:p.Kind=10<;>simp [a,b,c]
  refine Aw (fun g=>nomatch g) (fun _=>?_);rw [Qd,Qy];refine Aw (fun g=>absurd (Aa g) (by dsimp only;omega)) (fun _=>?_);exact Aw (fun g=>absurd (Aa g) (by dsimp only;omega)) (fun _ => .ret rfl)
 refine Aw (fun g=>nomatch g) (fun _=>?_);refine Au (Qmq n hn) ?_;have hp:=Q30 (16 * p.Kind+hdF p) (by omega) 1 (by omega)
 have ew:wrap .i64 (wrap .i64 (16 * p.Kind)+hdF p)=16 * p.Kind+hdF p:=by rw [w64 (16 * p.Kind) (by omega),w64 _ (by omega)]
 dsimp only;rw [ew];refine Au hp ?_;refine Ax (by rw [Ln,Yv];omega) (.ret ?_);show ([UInt8.ofNat ((16 * p.Kind+hdF p).toNat % 256)]++vb n,(0:Int))=_;rw [show (16 * p.Kind+hdF p).toNat % 256=(16 * p.Kind+hdF p).toNat by omega];rfl
end
def Qxh (v:Int) (p:Q1):List UInt8:=hdB p (mqY v p).length++mqY v p
section
variable {v:Int} {p:Q1} (h:Qd0 p)
include h
theorem Z53 (h0:mqE v p=0):(v=4∨v=5)∧¬ Q9j v p.Kind∧(p.Kind=3→Qdp p):=by
 unfold mqE at h0
 by_cases hv:v=4∨v=5
 ·rw [Af hv] at h0
  by_cases hk:Q9j v p.Kind
  ·rw [Af hk] at h0;exact absurd h0 (by decide)
  rw [Ae hk] at h0;refine ⟨hv,hk,fun h3=>?_⟩;rw [Ae (by omega),Af h3] at h0;exact (Qwh h h0).2.1
 rw [Ae hv] at h0;exact absurd h0 (by decide)
theorem Z3e:Tot (fun N=>Q66 N v p) (Q1m (mqE v p) (Qxh v p)):=by
 refine Ar ?_;unfold Q66;refine Au (Z0j h) ?_;unfold Q1m
 by_cases h0:mqE v p=0
 ·rw [Af h0,Af h0];obtain ⟨hv,hk,hq⟩:=Z53 h h0;have hl:=Qlx h (v:=v);refine Aw (fun g=>nomatch g) (fun _=>?_);refine Au (Z3f hv hk hq) ?_;refine Aw (fun g=>nomatch g) (fun _=>?_);refine Au (Z5z hv hk hq (mqY v p).length (by omega)) ?_;refine Aw (fun g=>nomatch g) (fun _=>?_);have:=Qpv (n:=(mqY v p).length) (by omega);exact Ax (by rw [Ln];unfold hdB;simp only [Li];omega) (.ret rfl)
 rw [Ae h0,Ae h0];refine Aw (fun _ => .ret rfl) (fun g=>?_);rw [Qq] at g;exact absurd (Decidable.byContradiction fun x=>Ac g x) h0
theorem Z2p:Tot (fun N=>Yd N v p) (Q1m (mqE v p) (Qxh v p)):=by
 refine Ar ?_;unfold Yd;refine Au (Quw h) ?_;unfold Q1m
 by_cases h0:mqE v p=0
 ·rw [Af h0,Af h0];obtain ⟨hv,hk,hq⟩:=Z53 h h0;have hl:=Qlx h (v:=v);refine Aw (fun g=>nomatch g) (fun _=>?_);refine Au (Z1a hv hk hq) ?_;refine Au (Z59 hv hk hq (mqY v p).length (by omega)) ?_;have:=Qpv (n:=(mqY v p).length) (by omega);exact Ax (by rw [Ln];unfold hdB;simp only [Li];omega) (.ret rfl)
 rw [Ae h0,Ae h0];refine Aw (fun _ => .ret rfl) (fun g=>?_);rw [Qq] at g;exact absurd (Decidable.byContradiction fun x=>Ac g x) h0
end
end
end Go.Av
namespace Go.Av
noncomputable section
def SmP (l:List Qb):Prop:=∀ q∈l,q.Text.length≤300∧q.Value.length≤300
structure Z1m (p:Q1):Prop where
 props:SmP p.Props
 wprops:SmP p.Will.Props
theorem Qvh {sh:Int} {p:Qb} (h:FitV sh p) (h0:p.Text.length≤300∧p.Value.length≤300):(Qpx sh p).length≤604:=by
 unfold Qpx
 repeat' split
 ·rw [Yv];omega
 ·rw [Yv];omega
 ·rw [Yv];omega
 ·rename_i h4;have:=h.var h4;have:=h.num (by omega);have:=Qpv (n:=p.N'.toNat) (by omega);omega
 ·rw [Le,Yu,Yu];omega
 rw [Le,Yu,Ly];omega
theorem Qo9 {k:Int}:∀ {l:List Qb},(∀ p∈l,Qdl k p=0)→SmP l→(Qjk l).length≤l.length * 605
 | [],_,_=>Lm _
 | a::l,hm,hs=>by
  obtain ⟨r,hr,hsh,hfit⟩:=Z4x (hm a Ns);have h1:=Qvh hfit (hs a Ns);have h2:=Qo9 (fun p hp=>hm p (Nm _ hp)) (fun p hp=>hs p (Nm _ hp));show (Qux a++Qjk l).length≤_;unfold Qux;rw [hsh,Le,Li,Li];omega
theorem Qrn {k:Int} {l:List Qb} (hl:l.length≤30) (hs:SmP l):(Qhg k l).1.length≤20000:=by
 unfold Qhg;split
 ·rename_i h;have:=Qo9 (Z4c h) hs
  have h2:(Qjk l).length≤19000:=by omega
  have:=Qpv (n:=(Qjk l).length) (by omega);simp only [Le];omega
 exact Lm _
theorem Qni {v k:Int} {l:List Qb} (hl:l.length≤30) (hs:SmP l):(Qib v k l).length≤20000:=by
 unfold Qib;split
 ·exact Lm _
 exact Qrn hl hs
section
variable {v:Int} {p:Q1} (h:Qd0 p) (hs:Z1m p)
include h hs
theorem Qy1:(mqY v p).length≤200000:=by
 have b1:=fun n=>Yv 1 n;have b2:=fun n=>Yv 2 n;have t0:∀ k,(Qib v k p.Props).length≤20000:=fun k=>Qni h.props.len hs.props
 have sho:(Qq9 p.Kind p.Code p.Props).length≤20010:=by
  have hw:=Qrn (k:=p.Kind) h.props.len hs.props;unfold Qq9
  repeat' split
  ·exact Lm _
  ·rw [Lu,b1];omega
  rw [Le,b1];omega
 unfold mqY;split
 ·have l1:=h.client;have l2:=h.user;have l3:=h.pass;have l4:=h.wtopic;have l5:=h.wpayload;have t1:=t0 p.Kind;have t2:=Qni (v:=v) (k:=16) h.wprops.len hs.wprops;have d1:=Yu p.Client;have d2:=Yu p.User;have d3:=Yu p.Pass;have d4:=Yu p.Will.Topic;have d5:=Yu p.Will.Payload;unfold Qhu;cases decide (p.Kind=2)<;>cases p.HasWill<;>cases p.HasUser<;>cases p.HasPass<;>simp only [Ai,Ah,Le,Li,Ly,b1,b2,d1,d2,d3,d4,d5]<;>omega
 split
 ·have l1:=h.topic;have l2:=h.payload;have d1:=Yu p.Topic;have t1:=t0 3;unfold Z3t
  split<;>simp only [Le,Ly,b2]<;>omega
 split
 ·rw [Le,b2];omega
 split
 ·have hf:=h.filters;have hc:=h.codes;have t1:=t0 p.Kind
  have f1:∀ l:List Qg,(∀ f∈l,f.Topic.length≤2000)→(l.flatMap (Qmw p.Kind)).length≤l.length * 2010:=fun l hl=>by
   induction l with
   | nil=>exact Lm _
   | cons a l ih=>
    have:=ih fun f hf=>hl f (Nm _ hf);have ha:=hl a Ns;have:=Yu a.Topic;rw [Bb,Le,Li]
    have:(Qmw p.Kind a).length≤2003:=by
     unfold Qmw;rw [Le];split
     ·simp only [Lw];omega
     simp only [Ly];omega
    omega
  have c1:∀ l:List Int,(l.flatMap cdB).length=l.length:=fun l=>by
   induction l with
   | nil=>rfl
   | cons a l ih=>rw [Bb,Le,Li,ih];show 1+_=_;omega
  have:=f1 p.Filters hf.2;have:=c1 p.Codes;unfold Z3u;rw [Le,Le,Le,b2];omega
 omega
theorem Qwu:(Qxh v p).length≤200010:=by
 have hl:=Qy1 h hs (v:=v);have:=Qpv (n:=(mqY v p).length) (by omega);unfold Qxh hdB;simp only [Le,Li];omega
end
theorem Quh (p:Q1) (h1:p.Filters.length≤maxLen) (h2:p.Props.length≤maxLen) (h3:p.Will.Props.length≤maxLen):TotP (fun N=>Xz N p) (fun v=>v=true→Z1m p):=by
 have hm:=Q9a
 have tail:TotP (fun N=>cond (Q3 .leq (p.Topic.length:Int) 2000) (cond (Q3 .leq (p.Payload.length:Int) 2000) (cond (Q3 .leq (p.Client.length:Int) 2000) (cond (Q3 .leq (p.User.length:Int) 2000) (cond (Q3 .leq (p.Pass.length:Int) 2000)
  (cond (Q3 .leq (p.Will.Topic.length:Int) 2000) (cond (Q3 .leq (p.Will.Payload.length:Int) 2000) (cond (Q3 .leq ((Q6 (cI .i64) p.Codes).length:Int) 30) (cond (Q3 .leq (p.Filters.length:Int) 30)
  ((Qx N p.Props).bind fun v26=>cond v26 ((Qx N p.Will.Props).bind fun v29=>some v29) (some false)) (some false)) (some false)) (some false)) (some false)) (some false)) (some false)) (some false)) (some false)) (some false)) (fun v=>v=true→Z1m p):=by
  iterate 9 refine Aw (fun _=>?_) (fun _ => .ret (fun h=>nomatch h))
  refine At (Q9i _ h2) (fun v hv=>Aw (fun hv1=>?_) (fun _ => .ret (fun h=>nomatch h)));exact At (Q9i _ h3) (fun w hw => .ret (fun hw1=>⟨(hv hv1).2,(hw hw1).2⟩))
 refine Q5n (L:=fun N n s=>Zi N p n s) p.Filters.length (fun i=>True) (fun i hi hj=>?_) (fun hj=>?_) trivial
 ·show Stp _ _ _ (fun N n=>cond (Q3 .lss (i:Int) ((Q6 Qg.cells p.Filters).length:Int)) _ _);rw [Q4,Qd];refine AE (fun _=>?_) (fun h=>by have:=Ac h;omega);refine AE (fun _=>?_) (fun h=>Az tail);refine AD (Z2 hi) ?_;rw [Qy];refine AE (fun _=>AA (fun h=>nomatch h)) (fun h1=>?_);rw [w64 _ (by omega)];exact AB (L:=fun N n s=>Zi N p n s) _ ⟨by omega,trivial⟩
 show Stp _ _ _ (fun N n=>cond (Q3 .lss (p.Filters.length:Int) ((Q6 Qg.cells p.Filters).length:Int)) _ _);rw [Q4,Qd];exact AE (fun h=>by have:=Aa h;omega) (fun _=>Az tail)
theorem Qxu (e:Qe) (h:OkE e) (hv:∀ x∈e.Frame.Values,OkV x):TotP (fun N=>Vt N e) (fun v=>v=true→SmP e.Props∧Z1m e.Packet):=by
 refine Aw (fun h1=>?_) (fun _ => .ret (fun h=>nomatch h));refine Aw (fun h2=>?_) (fun _ => .ret (fun h=>nomatch h));refine At (Q9i _ h.props) (fun v hv1=>?_);refine Aw (fun h3=>?_) (fun _ => .ret (fun h=>nomatch h));refine At (Quh _ h.filters h.pprops h.wprops) (fun u hu=>?_);refine Aw (fun hu1=>?_) (fun _ => .ret (fun h=>nomatch h));refine At (Qub _) (fun w hw=>?_);refine Aw (fun h4=>?_) (fun _ => .ret (fun h=>nomatch h));exact At (Qrm _ hv) (fun x hx => .ret (fun h5=>⟨(hv1 h3).2,hu hu1⟩))
end
end Go.Av
namespace Go.Av
noncomputable section
def Qjn (e:Qe):Prop:=e.Packet=zP∧e.Msg=zM∧e.Frame=zF
structure PubM (e:Qe):Prop where
 qos:0≤e.QoS∧e.QoS≤2
 id:0≤e.ID∧e.ID≤65535
 ack:e.ID≠0↔(e.QoS=1∨e.QoS=2)
 dup:e.Dup=true→(e.QoS=1∨e.QoS=2)
 props:e.Props ≠ []→e.Proto=2
 typ:e.Type'=0
 hops:e.Hops = []
 ch:e.Channel=0
 bare:Qjn e
open Classical in
noncomputable def Qdo (e:Qe):Int:=if e.Kind=1 then (if Q04 e.Topic=true then (if PubM e then (if Q6x 3 [] e.Props=0 then 0 else 9) else 2) else 10) else 2
section
variable {e:Qe}
theorem Z8b (hpk:Z03 e.Packet) (hs:Q2.szs e.Frame.Values<700000000):TotP (fun N=>Q6d N e) (fun v=>v=true↔Qjn e):=by
 unfold Q6d;refine At (Q1p e.Packet zP hpk) (fun v hv=>?_);refine Aw (fun g=>?_) (fun g => .ret ⟨fun h=>(nomatch h),fun x=>by have:=hv.2 x.1;rw [g] at this;cases this⟩);refine Aw (fun g2=>?_) (fun g2 => .ret ⟨fun h=>(nomatch h),fun x=>absurd (g2.symm.trans ((Qtp e.Msg zM).2 x.2.1)) Lk⟩);exact At (V:=fun v=>v=true↔e.Frame=zF) ⟨decide (e.Frame=zF),decide_eq_true_iff,800000000,fun N hN=>Qmz hN _ _ hs⟩ (fun w hw => .ret ⟨fun h=>⟨hv.1 g,(Qtp e.Msg zM).1 g2,hw.1 h⟩,fun x=>hw.2 x.2.2⟩)
theorem Z4j (hpk:Z03 e.Packet) (hs:Q2.szs e.Frame.Values<700000000):TotP (fun N=>Yt N e) (fun v=>v=true↔Qjn e):=by
 unfold Yt;refine At (Jj e.Packet zP hpk) (fun v hv=>?_);refine Aw (fun g=>?_) (fun g => .ret ⟨fun h=>(nomatch h),fun x=>by have:=hv.2 x.1;rw [g] at this;cases this⟩);refine Aw (fun g2=>?_) (fun g2 => .ret ⟨fun h=>(nomatch h),fun x=>absurd (g2.symm.trans ((Qtp e.Msg zM).2 x.2.1)) Lk⟩);exact At (V:=fun v=>v=true↔e.Frame=zF) ⟨decide (e.Frame=zF),decide_eq_true_iff,800000000,fun N hN=>Qgt hN _ _ hs⟩ (fun w hw => .ret ⟨fun h=>⟨hv.1 g,(Qtp e.Msg zM).1 g2,hw.1 h⟩,fun x=>hw.2 x.2.2⟩)
theorem Qc5 {T:Type} {l:List T} {c:T→List PV}:Q3 .gtr ((Q6 c l).length:Int) 0=decide (l ≠ []):=by
 rw [Q4,Qy]
 cases l with
 | nil=>rfl
 | cons a l=>rw [Ad (by simp only [Li];omega),Ad (by exact List.cons_ne_nil _ _)]
variable (hp:e.Proto=1∨e.Proto=2) (ht:e.Topic.length≤maxLen) (hpr:OkP e.Props) (hpk:Z03 e.Packet) (hs:Q2.szs e.Frame.Values<700000000)
include hp ht hpr hpk hs
theorem Zqd:Tot (fun N=>Q1l N e) (Qdo e):=by
 refine Ar ?_
 have no:e.Kind=1→Q04 e.Topic=true→¬ PubM e→2=Qdo e:=fun a b c=>by unfold Qdo;rw [Af a,Af b,Ae c]
 have j4:e.Kind=1→Q04 e.Topic=true→(Qjn e→PubM e)→TotP (fun N=>Jt N e) (· = Qdo e):=fun a b c=>by
  unfold Jt;refine At (Z8b hpk hs) (fun v hv=>?_);refine Aw (fun g => .ret (no a b fun x=>by have:=hv.2 x.bare;rw [bN g] at this;cases this)) (fun g=>?_);have hM:=c (hv.1 (bP g));refine Au (Qid e.Props hpr.len hpr.txt) ?_;rw [Qq];unfold Qdo;rw [Af a,Af b,Af hM];exact Aw (fun g => .ret (by rw [Ae (Aa g)])) (fun g => .ret (by rw [Af (Decidable.byContradiction fun x=>Ac g x)]))
 have j3:e.Kind=1→Q04 e.Topic=true→(e.Type'=0→e.Hops = []→e.Channel=0→Qjn e→PubM e)→TotP (fun N=>Ju N e) (· = Qdo e):=fun a b c=>by
  unfold Ju;simp only [Qa,Qq,Qc5,Qm2,Ll];refine Aw (fun h=>absurd (Aa h) (by omega)) (fun _=>?_);refine Aw (fun g => .ret (no a b fun x=>Aa g x.typ)) (fun g1=>?_);refine Aw (fun g => .ret (no a b fun x=>Aa g x.hops)) (fun g2=>?_);refine Aw (fun g => .ret (no a b fun x=>by rw [x.ch] at g;exact absurd g (by decide))) (fun g3=>?_);have g1:e.Type'=0:=Decidable.byContradiction fun x=>Ac g1 x;have g2:e.Hops = []:=Decidable.byContradiction fun x=>Ac g2 x;refine Aw (fun g4=>?_) (fun g4=>j4 a b (c g1 g2 (Decidable.byContradiction fun x=>Ac g4 x)));have g4:=Aa g4;exact Aw (fun _ => .ret (no a b fun x=>g4 x.ch)) (fun h=>absurd (Ac h) (by omega))
 have j2:e.Kind=1→Q04 e.Topic=true→((e.Props ≠ []→e.Proto=2)→e.Type'=0→e.Hops = []→e.Channel=0→Qjn e→PubM e)→TotP (fun N=>Uf N e) (· = Qdo e):=fun a b c=>by
  unfold Uf;simp only [Qq,Qc5];refine Aw (fun g=>?_) (fun g=>j3 a b (c fun x=>absurd x (Ac g)));have g:=Aa g;exact Aw (fun g2 => .ret (no a b fun x=>Aa g2 (x.props g))) (fun g2=>j3 a b (c fun _=>Decidable.byContradiction fun x=>Ac g2 x))
 have j1:∀ c:Bool,(c=true↔(e.QoS=1∨e.QoS=2))→e.Kind=1→Q04 e.Topic=true→0≤e.QoS∧e.QoS≤2→TotP (fun N=>G0 N e c) (· = Qdo e):=fun c hc a b hq=>by
  unfold G0;simp only [Qa,Qq,Qm2,Ll];refine Aw (fun g => .ret (no a b fun x=>by simp [x.id.1,x.id.2] at g)) (fun g1=>?_)
  have g1:0≤e.ID∧e.ID≤65535:=by simpa using g1
  refine Aw (fun g => .ret (no a b fun x=>?_)) (fun g2=>?_)
  ·have e1:decide (e.ID≠0)=c:=by
    cases c with
    | true=>exact Ad (x.ack.2 (hc.1 rfl))
    | false=>exact Ab fun y=>by have:=hc.2 (x.ack.1 y);cases this
   rw [e1] at g;simp at g
  have g2:c=decide (e.ID≠0):=eq_of_beq (bP g2)
  have ha:e.ID≠0↔(e.QoS=1∨e.QoS=2):=by rw [← hc,g2,decide_eq_true_iff]
  refine Aw (fun gd=>?_) (fun gd=>j2 a b fun h1 h2 h3 h4 h5=>⟨hq,g1,ha,fun x=>(by rw [gd] at x;cases x),h1,h2,h3,h4,h5⟩);refine Aw (fun gc=>?_) (fun gc=>j2 a b fun h1 h2 h3 h4 h5=>⟨hq,g1,ha,fun _=>hc.1 (bP gc),h1,h2,h3,h4,h5⟩);exact Aw (fun _ => .ret (no a b fun x=>by have:=hc.2 (x.dup gd);rw [bN gc] at this;cases this)) (fun h=>absurd (Aa (bP h)) (by omega))
 have j0:∀ c:Bool,(c=true↔(e.QoS=1∨e.QoS=2))→TotP (fun N=>Jx N e c) (· = Qdo e):=fun c hc=>by
  unfold Jx;simp only [Qzg,Qm2,Ll,Qa,Qq];refine Aw (fun g=>absurd (Ac (bN g)) (by omega)) (fun _=>?_);refine Aw (fun g => .ret (by unfold Qdo;rw [Ae (Aa g)])) (fun g1=>?_);have g1:e.Kind=1:=Decidable.byContradiction fun x=>Ac g1 x;refine Au (Qf8 _ ht) ?_;refine Aw (fun g => .ret (by unfold Qdo;rw [Af g1,Ae (by rw [bN g];decide)])) (fun gn=>?_);refine Aw (fun g=>Aw (fun h=>absurd (Aa h) (by omega)) (fun _ => .ret (no g1 (bP gn) fun x=>by simp [x.qos.1,x.qos.2] at g))) (fun g2=>?_);exact j1 c hc g1 (bP gn) (by simpa using g2)
 unfold Q1l;rw [Qa,Qa];exact Aw (fun g=>j0 true ⟨fun _ => .inl (Aa g),fun _=>rfl⟩) (fun g=>j0 _ ⟨fun x => .inr (Aa x),fun x=>Ad (x.resolve_left (Ac g))⟩)
theorem Zqv:Tot (fun N=>U6 N e) (Qdo e):=by
 refine Ar ?_
 have no:e.Kind=1→Q04 e.Topic=true→¬ PubM e→2=Qdo e:=fun a b c=>by unfold Qdo;rw [Af a,Af b,Ae c]
 have j7:e.Kind=1→Q04 e.Topic=true→∀ s:Bool,(s=false↔PubM e)→TotP (fun N=>Za N e s) (· = Qdo e):=fun a b s hs=>by
  unfold Za;refine Aw (fun g => .ret (no a b fun x=>by rw [hs.2 x] at g;cases g)) (fun g=>?_);refine Au (Qdw e.Props hpr.len hpr.txt) ?_;rw [Qq];unfold Qdo;rw [Af a,Af b,Af (hs.1 g)];exact Aw (fun g => .ret (by rw [Ae (Aa g)])) (fun g => .ret (by rw [Af (Decidable.byContradiction fun x=>Ac g x)]))
 have j4:e.Kind=1→Q04 e.Topic=true→∀ s:Bool,(s=true→¬ PubM e)→(s=false→e.Channel=0→Qjn e→PubM e)→TotP (fun N=>Qw N e s) (· = Qdo e):=fun a b s h1 h2=>by
  unfold Qw;simp only [Qd,Qy,Qq];refine Aw (fun g => .ret (no a b (h1 g))) (fun g=>?_);have t7:¬ PubM e→TotP (fun N=>Za N e true) (· = Qdo e):=fun x=>j7 a b true ⟨fun y=>(nomatch y),fun y=>absurd y x⟩;refine Aw (fun g=>t7 fun x=>by have:=Aa g;have:=x.ch;omega) (fun g3=>?_);refine Aw (fun g=>t7 fun x=>by have:=Aa g;have:=x.ch;omega) (fun g4=>?_);refine Aw (fun g5=>?_) (fun g5=>?_)
  ·exact Aw (fun _=>t7 fun x=>Aa g5 x.ch) (fun h=>absurd (Ac h) (by omega))
  refine At (Z4j hpk hs) (fun v hv=>j7 a b _ ⟨fun x=>h2 g (Decidable.byContradiction fun y=>Ac g5 y) (hv.1 (bP x)),fun x=>by rw [hv.2 x.bare];rfl⟩)
 have j6:e.Kind=1→Q04 e.Topic=true→∀ s:Bool,(s=true→¬ PubM e)→(s=false→e.Type'=0→e.Hops = []→e.Channel=0→Qjn e→PubM e)→TotP (fun N=>Xr N (Qw N e) e s) (· = Qdo e):=fun a b s h1 h2=>by
  unfold Xr;refine Aw (fun g=>j4 a b s h1 fun x=>by rw [g] at x;cases x) (fun g=>?_);refine At (V:=fun v=>v=true↔(e.Type'=0∧e.Hops = [])) ?_ (fun v hv=>j4 a b _ (fun x y=>by rw [hv.2 ⟨y.typ,y.hops⟩] at x;cases x) (fun x=>h2 g (hv.1 (bP x)).1 (hv.1 (bP x)).2));unfold Q11;rw [Qq,Qa];refine Aw (fun _=>?_) (fun h=>absurd (Decidable.byContradiction fun x=>Ac h x) (by omega));refine Aw (fun g => .ret ?_) (fun g => .ret ⟨fun x=>(nomatch x),fun x=>absurd x.1 (Ac g)⟩);rw [Qa,Q4,decide_eq_true_iff];exact ⟨fun x=>⟨Aa g,Mi.1 (by omega)⟩,fun x=>by rw [x.2];rfl⟩
 have j5:e.Kind=1→Q04 e.Topic=true→∀ s:Bool,(s=true→¬ PubM e)→(s=false→(e.Props ≠ []→e.Proto=2)→e.Type'=0→e.Hops = []→e.Channel=0→Qjn e→PubM e)→TotP (fun N=>Yw N (Qw N e) e s) (· = Qdo e):=fun a b s h1 h2=>by
  unfold Yw;simp only [Qc5,Qq];refine Aw (fun g=>j4 a b s h1 fun x=>by rw [g] at x;cases x) (fun g=>?_);refine Aw (fun gp=>?_) (fun gp=>j6 a b false (fun x=>(nomatch x)) fun _=>h2 g fun x=>absurd x (Ac gp));have gp:=Aa gp;exact j6 a b _ (fun x y=>Aa x (y.props gp)) (fun x=>h2 g fun _=>Decidable.byContradiction fun y=>Ac x y)
 have j3:∀ c:Bool,(c=true↔(e.QoS=1∨e.QoS=2))→e.Kind=1→Q04 e.Topic=true→∀ s:Bool,(s=true→¬ PubM e)→(s=false→(e.Dup=true→(e.QoS=1∨e.QoS=2))→(e.Props ≠ []→e.Proto=2)→e.Type'=0→e.Hops = []→e.Channel=0→Qjn e→PubM e)→TotP (fun N=>Zb N e c s) (· = Qdo e):=fun c hc a b s h1 h2=>by
  unfold Zb;rw [Qq];refine Aw (fun g => .ret (no a b (h1 g))) (fun g=>?_);refine Aw (fun gd=>?_) (fun gd=>j5 a b false (fun x=>(nomatch x)) fun _=>h2 g fun x=>by rw [gd] at x;cases x);refine Aw (fun gc=>j5 a b _ (fun x y=>by have:=hc.2 (y.dup gd);rw [bN gc] at this;cases this) fun x=>absurd (Ac x) (by omega)) (fun gc=>j5 a b false (fun x=>(nomatch x)) fun _=>h2 g fun _=>hc.1 (bP gc))
 have j2:∀ c:Bool,(c=true↔(e.QoS=1∨e.QoS=2))→e.Kind=1→Q04 e.Topic=true→TotP (fun N=>Xs N e 0 c) (· = Qdo e):=fun c hc a b=>by
  unfold Xs;simp only [Qd,Qy,Qq];have t3:¬ PubM e→TotP (fun N=>Zb N e c true) (· = Qdo e):=fun x=>j3 c hc a b true (fun _=>x) (fun y=>(nomatch y));refine Aw (fun g=>t3 fun x=>by have:=Aa g;have:=x.qos;omega) (fun g1=>?_);refine Aw (fun g=>t3 fun x=>by have:=Aa g;have:=x.qos;omega) (fun g2=>?_);refine Aw (fun g=>t3 fun x=>by have:=Aa g;have:=x.id;omega) (fun g3=>?_);refine Aw (fun g=>t3 fun x=>by have:=Aa g;have:=x.id;omega) (fun g4=>?_);have g1:=Ac g1;have g2:=Ac g2;have g3:=Ac g3;have g4:=Ac g4;refine j3 c hc a b _ (fun g x=>?_) (fun g h1 h2 h3 h4 h5 h6=>?_)
  ·have e1:decide (e.ID≠0)=c:=by
    cases c with
    | true=>exact Ad (x.ack.2 (hc.1 rfl))
    | false=>exact Ab fun y=>by have:=hc.2 (x.ack.1 y);cases this
   rw [e1] at g;simp at g
  have g:c=decide (e.ID≠0):=(eq_of_beq (bP g)).symm
  have ha:e.ID≠0↔(e.QoS=1∨e.QoS=2):=by rw [← hc,g,decide_eq_true_iff]
  exact ⟨⟨by omega,by omega⟩,⟨by omega,by omega⟩,ha,h1,h2,h3,h4,h5,h6⟩
 have j0:∀ s:Bool,(s=true↔e.Kind≠1)→TotP (fun N=>Yx N e s) (· = Qdo e):=fun s hs=>by
  unfold Yx;rw [Qa];refine Aw (fun g => .ret (by unfold Qdo;rw [Ae (hs.1 g)])) (fun g=>?_)
  have a:e.Kind=1:=Decidable.byContradiction fun x=>by rw [hs.2 x] at g;cases g
  refine Au (Qfa _ ht) ?_;refine Aw (fun g => .ret (by unfold Qdo;rw [Af a,Ae (by rw [bN g];decide)])) (fun gn=>?_);refine Aw (fun g=>absurd (Aa g) (by omega)) (fun _=>?_);unfold V2;rw [Qa,Qa];exact Aw (fun g=>j2 true ⟨fun _ => .inl (Aa g),fun _=>rfl⟩ a (bP gn)) (fun g=>j2 _ ⟨fun x => .inr (Aa x),fun x=>Ad (x.resolve_left (Ac g))⟩ a (bP gn))
 unfold U6;rw [Qd,Qy,Qq];refine Aw (fun g=>absurd (Aa g) (by omega)) (fun _=>?_);refine Aw (fun g=>absurd (Aa g) (by omega)) (fun _=>?_);exact j0 _ decide_eq_true_iff
end
end
end Go.Av
namespace Go.Av
noncomputable section
def evO (pr:Int) (p:Q1):Qe:=⟨pr,2,[],[],0,false,false,0,[],0,[],0,p,zM,zF⟩
def evM (pr:Int) (p:Q1):Qe:=⟨pr,1,p.Topic,p.Payload,p.QoS,p.Retain,p.Dup,p.ID,p.Props,0,[],0,zP,zM,zF⟩
def pkM (e:Qe):Q1:=⟨3,e.Dup,e.Retain,e.QoS,e.ID,e.Topic,e.Payload,false,0,[],false,[],false,[],false,(⟨[],[],0,false,[]⟩:Xn),false,0,[],[],e.Props⟩
def pkE (e:Qe):Q1:=if e.Kind=1 then pkM e else e.Packet
open Classical in
noncomputable def Qxe (e:Qe):Int:=if e=evO e.Proto e.Packet then (if e.Packet.Kind=3 then 2 else mqE (3+e.Proto) e.Packet) else 2
noncomputable def evX (e:Qe):Int:=if e.Kind=1 then Qdo e else if e.Kind=2 then Qxe e else 2
noncomputable def frX (e:Qe):Int×Q1×Int:=if e.Proto=1∨e.Proto=2 then (if evX e=0 then (3+e.Proto,pkE e,0) else (0,zP,evX e)) else (0,zP,2)
noncomputable def toX (v:Int) (p:Q1):Qe×Int:=if mqE v p=0 then (if p.Kind=3 then (if p.Topic = [] then (zE,11) else (evM (v - 3) p,0)) else (evO (v - 3) p,0)) else (zE,mqE v p)
def Z09:Ua:=⟨1048576,32⟩
theorem Z3z {e:Qe} (h:LE e):Qd0 (pkM e):=by
 have:=h.topic;have:=h.payload;have hp:=h.props;have hl:=hp.len;have:=ml2;unfold pkM;refine ⟨⟨Lm _,Lm _,by show e.Props.length≤_;omega,Lm _⟩,hp,⟨Lm _,fun x hx=>(nomatch hx)⟩,by assumption,by assumption,Lm _,Lm _,Lm _,Lm _,Lm _,Lm _,Lm _,fun x hx=>(nomatch hx)⟩
theorem Z07 {e:Qe} (h:LE e):Qd0 (pkE e):=by
 unfold pkE;split
 ·exact Z3z h
 exact h.pk
theorem Z3g {e:Qe} (hk:e.Kind=1) (h:PubM e):e=evM e.Proto (pkM e):=by
 have h1:=h.typ;have h2:=h.hops;have h3:=h.ch;obtain ⟨h4,h5,h6⟩:=h.bare;unfold evM pkM;cases e
 simp_all
section
variable {e:Qe} (h:LE e) (hp:e.Proto=1∨e.Proto=2)
include h hp
theorem Ztn (hk:e.Kind=2):Tot (fun N=>Q4o N e Z09) (Qxe e):=by
 refine Ar ?_;have hpe:=h.pk
 have key:∀ v,v=3+e.Proto→TotP (fun N=>(Q0r N (⟨e.Proto,e.Kind,[],[],0,false,false,0,[],0,[],0,e.Packet,zM,zF⟩:Qe) e).bind fun v2=>cond (!v2) (some (2:Int)) (cond (Q3 .eql e.Packet.Kind 3) (some 2) ((Q1n N v e.Packet).bind fun v6=>some v6))) (· = Qxe e):=fun v hv=>by
  refine At (Qm0 _ e ⟨Lm _,Lm _,hpe.l,by show Q2.szs []<700000000;decide⟩) (fun b hb=>?_)
  have hb:b=true↔e=evO e.Proto e.Packet:=by
   rw [hb,hk];exact ⟨fun x=>x.symm,fun x=>x.symm⟩
  unfold Qxe;refine Aw (fun g => .ret (by rw [Ae fun x=>by rw [hb.2 x] at g;cases g])) (fun g=>?_);rw [Af (hb.1 (bP g)),Qa];refine Aw (fun g => .ret (by rw [Af (Aa g)])) (fun g=>?_);rw [Ae (Ac g),← hv];exact Au (Qw9 hpe) (.ret rfl)
 unfold Q4o;rw [Qa,Qa];refine Aw (fun g=>key 4 (by have:=Aa g;omega)) (fun g=>?_);exact Aw (fun g=>key 5 (by have:=Aa g;omega)) (fun g2=>absurd hp (by have:=Ac g;have:=Ac g2;omega))
theorem Zva (hk:e.Kind=2):Tot (fun N=>Jp N e Z09) (Qxe e):=by
 refine Ar ?_;have hpe:=h.pk;have ho:=h.oks;unfold Jp;refine At (Qff _ _ ⟨ho.props,Lm _,Qp1,by show Q2.szs []<700000000;decide⟩) (fun b hb=>?_)
 have no:e≠evO e.Proto e.Packet→2=Qxe e:=fun x=>by unfold Qxe;rw [Ae x]
 refine Aw (fun g => .ret (no fun x=>by rw [hb.2 (by rw [x];rfl)] at g;cases g)) (fun g=>?_);have hx:=hb.1 (bP g);refine Au (v:=3+e.Proto) (.of fun _=>by rcases hp with x | x<;>rw [x]<;>rfl) ?_;rw [Qq,Ad (show 3+e.Proto≠0 by omega)];refine Aw (fun _=>?_) (fun g=>nomatch g);refine At (Z4j Qp1 ho.fr) (fun c hc=>?_);refine Aw (fun g => .ret (no fun x=>?_)) (fun g=>?_)
 ·rw [hc.2 ⟨rfl,by rw [x];rfl,by rw [x];rfl⟩] at g;cases g
 have hbr:=hc.1 (bP g);rw [Qc5,Qa];refine Aw (fun g => .ret (no fun x=>Aa g (by rw [x];rfl))) (fun g=>?_);have hh:e.Hops = []:=Decidable.byContradiction fun x=>Ac g x
 have he:e=evO e.Proto e.Packet:=by
  obtain ⟨_,b1,b2⟩:=hbr;have b1:e.Msg=zM:=b1;have b2:e.Frame=zF:=b2;simp only [Qe.mk.injEq] at hx;unfold evO;cases e
  simp_all
 unfold Qxe;rw [Af he];refine Aw (fun g => .ret (by rw [Af (Aa g)])) (fun g=>?_);rw [Ae (Ac g)];exact Au (Z4h hpe) (.ret rfl)
theorem Z62:Tot (fun N=>Q50 N e Z09) (evX e):=by
 refine Ar ?_;have:=h.topic;have:=ml2;have:=h.payload;unfold Q50 evX;refine Au (v:=true) (.of fun _=>rfl) ?_;refine Aw (fun g=>nomatch g) (fun _=>?_);rw [Qa,Qa];refine Aw (fun g=>?_) (fun g=>?_)
 ·rw [Af (Aa g)];refine Au (Zqd hp (by omega) h.props h.pk.l h.oks.fr) ?_;rw [Qq,Qy];refine Aw (fun _ => .ret rfl) (fun g2=>?_);exact Aw (fun g3=>by have:(e.Payload.length:Int)>1048576:=Aa g3;omega) (fun _ => .ret (Decidable.byContradiction fun x=>Ac g2 fun y=>x y.symm))
 rw [Ae (Ac g)];refine Aw (fun g=>?_) (fun g => .ret (by rw [Ae (Ac g)]));rw [Af (Aa g)];exact Au (Ztn h hp (Aa g)) (.ret rfl)
theorem Z6m:Tot (fun N=>Wq N e Z09) (evX e):=by
 refine Ar ?_;have:=h.topic;have:=ml2;have:=h.payload;unfold Wq evX;refine Au (v:=true) (.of fun _=>rfl) ?_;refine Aw (fun g=>nomatch g) (fun _=>?_);rw [Qa,Qa];refine Aw (fun g=>?_) (fun g=>?_)
 ·rw [Af (Aa g)];refine Au (Zqv hp (by omega) h.props h.pk.l h.oks.fr) ?_;rw [Qa,Qy];refine Aw (fun _=>?_) (fun _ => .ret rfl);exact Aw (fun g3=>by have:(e.Payload.length:Int)>1048576:=Aa g3;omega) (fun _ => .ret rfl)
 rw [Ae (Ac g)];refine Aw (fun g=>?_) (fun g => .ret (by rw [Ae (Ac g)]));rw [Af (Aa g)];exact Au (Zva h hp (Aa g)) (.ret rfl)
end
theorem Z7k {e:Qe} (h0:evX e=0):e.Frame.Values = []:=by
 unfold evX at h0
 by_cases hk:e.Kind=1
 ·rw [Af hk] at h0;unfold Qdo at h0;rw [Af hk] at h0
  by_cases hn:Q04 e.Topic=true
  rotate_left
  ·rw [Ae hn] at h0;exact absurd h0 (by decide)
  rw [Af hn] at h0
  by_cases hM:PubM e
  ·rw [hM.bare.2.2];rfl
  rw [Ae hM] at h0;exact absurd h0 (by decide)
 rw [Ae hk] at h0
 by_cases hk2:e.Kind=2
 rotate_left
 ·rw [Ae hk2] at h0;exact absurd h0 (by decide)
 rw [Af hk2] at h0;unfold Qxe at h0
 by_cases he:e=evO e.Proto e.Packet
 ·rw [he];rfl
 rw [Ae he] at h0;exact absurd h0 (by decide)
theorem Z1k {e:Qe} (h:LE e):Tot (fun N=>X0 N e) (frX e):=by
 refine Ar ?_;unfold X0 frX
 by_cases hp:e.Proto=1∨e.Proto=2
 ·rw [Af hp];refine Au (v:=(3+e.Proto,true)) (.of fun _=>by rcases hp with x | x<;>rw [x]<;>rfl) ?_;refine Aw (fun g=>nomatch g) (fun _=>?_);refine Au (v:=Z09) (.of fun _=>rfl) ?_;refine Au (Z62 h hp) ?_;rw [Qq,Qa];refine Aw (fun g => .ret (by rw [Ae (Aa g)];rfl)) (fun g=>?_);have h0:evX e=0:=Decidable.byContradiction fun x=>Ac g x;rw [Af h0];have hl1:=h.props.len;have hl2:e.Hops.length≤30:=h.dg.hops;have hcp:=Qbo e (by omega) (by omega) h.pk (Z7k h0);unfold pkE;refine Aw (fun g=>?_) (fun g=>?_)
  ·rw [Af (Aa g)];refine Au hcp ?_;exact Au (v:=pkM e) (.of fun _=>rfl) (.ret rfl)
  rw [Ae (Ac g)];refine Au hcp ?_;exact Au (v:=e.Packet) (.of fun _=>rfl) (.ret rfl)
 rw [Ae hp];refine Au (v:=(0,false)) (.of fun N=>?_) ?_
 ·unfold Q2j;rw [Qa,Qa,Ab (fun x=>hp (.inl x)),Ab (fun x=>hp (.inr x))];rfl
 exact Aw (fun _ => .ret rfl) (fun g=>nomatch g)
theorem toO {v:Int} {p:Q1} (h:Qd0 p):Tot (fun N=>Vh N v p) (toX v p):=by
 refine Ar ?_;have h3:=h.props.len;unfold Vh toX
 by_cases hv:v=4∨v=5
 ·refine Au (v:=(v - 3,true)) (.of fun _=>by rcases hv with x | x<;>rw [x]<;>rfl) ?_;refine Aw (fun g=>nomatch g) (fun _=>?_);refine Au (Qw9 h) ?_;rw [Qq,Qa,Gq];refine Aw (fun g => .ret (by rw [Ae (Aa g)];rfl)) (fun g=>?_);rw [Af (Decidable.byContradiction fun x=>Ac g x)];refine Aw (fun g=>?_) (fun g=>?_)
  ·rw [Af (Aa g)];refine Aw (fun g => .ret (by rw [Af (Aa g)];rfl)) (fun g=>?_);rw [Ae (Ac g)];refine Au (v:=evM (v - 3) p) (.of fun _=>rfl) ?_;exact Au (Qbo (evM (v - 3) p) (by show p.Props.length≤_;omega) (Lm _) Z56 rfl) (.ret rfl)
  rw [Ae (Ac g)];refine Au (v:=evO (v - 3) p) (.of fun _=>rfl) ?_;exact Au (Qbo (evO (v - 3) p) (Lm _) (Lm _) h rfl) (.ret rfl)
 have e0:mqE v p=2:=by unfold mqE;rw [Ae hv]
 rw [e0,Ae (by decide)];refine Au (v:=(0,false)) (.of fun N=>?_) ?_
 ·unfold Q3s;rw [Qa,Qa,Ab (fun x=>hv (.inl x)),Ab (fun x=>hv (.inr x))];rfl
 exact Aw (fun _ => .ret rfl) (fun g=>nomatch g)
theorem Z61 {e:Qe} (hp:e.Proto=1∨e.Proto=2) (h0:evX e=0):mqE (3+e.Proto) (pkE e)=0∧toX (3+e.Proto) (pkE e)=(e,0):=by
 unfold evX at h0
 have e3:3+e.Proto - 3=e.Proto:=by omega
 by_cases hk:e.Kind=1
 ·rw [Af hk] at h0;unfold Qdo at h0;rw [Af hk] at h0
  by_cases hn:Q04 e.Topic=true
  rotate_left
  ·rw [Ae hn] at h0;exact absurd h0 (by decide)
  rw [Af hn] at h0
  by_cases hM:PubM e
  rotate_left
  ·rw [Ae hM] at h0;exact absurd h0 (by decide)
  rw [Af hM] at h0
  have hl:Q6x 3 [] e.Props=0:=Decidable.byContradiction fun x=>by rw [Ae x] at h0;exact absurd h0 (by decide)
  have hq:=hM.qos;have hi:=hM.id;have ha:=hM.ack
  have hpk:pkE e=pkM e:=by unfold pkE;rw [Af hk]
  have hm:mqE (3+e.Proto) (pkM e)=0:=by
   unfold mqE;rw [Af (by omega),Ae (by show ¬ ((3:Int)<1∨15<(3:Int)∨((3:Int)=15∧_));omega),Ae (show ¬ ((pkM e).Kind≤2) by show ¬ ((3:Int)≤2);decide),Af (show (pkM e).Kind=3 from rfl)];rw [Qiu ⟨by omega,rfl⟩ ⟨hq,fun x=>?_⟩ ⟨rfl,fun x=>?_,fun x=>?_,fun x=>?_⟩ (.inl hn)]
   ·exact hl
   ·have x:e.QoS=0:=x
    cases hd:e.Dup with
    | false=>exact hd
    | true=>have:=hM.dup hd;omega
   ·have x:3+e.Proto=4:=x;show e.Props = []
    exact Decidable.byContradiction fun y=>by have:=hM.props y;omega
   ·have x:e.QoS=0:=x;show e.ID=0
    exact Decidable.byContradiction fun y=>by have:=ha.1 y;omega
   have x:e.QoS≠0:=x;have:=ha.2 (by omega);show 1≤e.ID∧e.ID≤65535;omega
  rw [hpk];refine ⟨hm,?_⟩
  have ht:e.Topic ≠ []:=fun x=>by rw [x] at hn;exact absurd hn (by decide)
  unfold toX;rw [Af hm,Af (show (pkM e).Kind=3 from rfl),Ae (show ¬ (pkM e).Topic = [] from ht),e3,← Z3g hk hM]
 rw [Ae hk] at h0
 by_cases hk2:e.Kind=2
 rotate_left
 ·rw [Ae hk2] at h0;exact absurd h0 (by decide)
 rw [Af hk2] at h0;unfold Qxe at h0
 have hpk:pkE e=e.Packet:=by unfold pkE;rw [Ae hk]
 rw [hpk]
 by_cases he:e=evO e.Proto e.Packet
 rotate_left
 ·rw [Ae he] at h0;exact absurd h0 (by decide)
 rw [Af he] at h0
 by_cases h3:e.Packet.Kind=3
 ·rw [Af h3] at h0;exact absurd h0 (by decide)
 rw [Ae h3] at h0;refine ⟨h0,?_⟩;unfold toX;rw [Af h0,Ae h3,e3,← he]
theorem Zvp {v:Int} {p:Q1} (hp:mqE v p=0) (ht:p.Kind=3→p.Topic ≠ []):∃ x,toX v p=(x,0)∧evX x=0∧frX x=(v,p,0)∧x.Proto=v - 3∧(v=4∨v=5)∧(x=evM (v - 3) p∨x=evO (v - 3) p):=by
 have hv:v=4∨v=5:=Decidable.byContradiction fun x=>by unfold mqE at hp;rw [Ae x] at hp;exact absurd hp (by decide)
 have hpr:v - 3=1∨v - 3=2:=by omega
 have e3:3+(v - 3)=v:=by omega
 by_cases h3:p.Kind=3
 ·have ht:=ht h3;have hb:=hp;unfold mqE at hb;rw [Af hv,Ae (by unfold Q9j;omega),Ae (by omega),Af h3] at hb;have a:Qri v p:=⟨hv,h3⟩
  have b:Qdp p:=Mb fun x=>by rw [Qs2 a x] at hb;exact absurd hb (by decide)
  have c:Qtg v p:=Mb fun x=>by rw [Qqz a b x] at hb;exact absurd hb (by decide)
  have d:Qqr v p:=Mb fun x=>by rw [Qqq a b c x] at hb;exact absurd hb (by decide)
  rw [Qiu a b c d] at hb;have hn:Q04 p.Topic=true:=d.resolve_right fun x=>ht x.2.2;obtain ⟨hu,h4,hi0,hi1⟩:=c;obtain ⟨hq,hd⟩:=b
  have hM:PubM (evM (v - 3) p):=by
   refine ⟨hq,?_,?_,fun x=>?_,fun x=>?_,rfl,rfl,rfl,rfl,rfl,rfl⟩
   ·show 0≤p.ID∧p.ID≤65535
    by_cases q0:p.QoS=0
    ·have:=hi0 q0;omega
    have:=hi1 q0;omega
   ·show p.ID≠0↔(p.QoS=1∨p.QoS=2)
    by_cases q0:p.QoS=0
    ·have:=hi0 q0;omega
    have:=hi1 q0;omega
   ·show p.QoS=1∨p.QoS=2;have x:p.Dup=true:=x
    by_cases q0:p.QoS=0
    ·rw [hd q0] at x;cases x
    omega
   show v - 3=2;have x:p.Props ≠ []:=x;have:v≠4:=fun y=>x (h4 y);omega
  have hx:evX (evM (v - 3) p)=0:=by
   unfold evX Qdo;rw [Af (show (evM (v - 3) p).Kind=1 from rfl),Af (show (evM (v - 3) p).Kind=1 from rfl),Af (show Q04 (evM (v - 3) p).Topic=true from hn),Af hM,Af (show Q6x 3 [] (evM (v - 3) p).Props=0 from hb)]
  refine ⟨evM (v - 3) p,?_,hx,?_,rfl,hv,.inl rfl⟩
  ·unfold toX;rw [Af hp,Af h3,Ae ht]
  unfold frX;rw [Af (show (evM (v - 3) p).Proto=1∨(evM (v - 3) p).Proto=2 from hpr),Af hx]
  have e1:pkE (evM (v - 3) p)=p:=by
   unfold pkE;rw [Af (show (evM (v - 3) p).Kind=1 from rfl)];refine Eq.trans ?_ hu.symm;unfold Z75;rw [h3];rfl
  rw [e1];show (3+(v - 3),p,(0:Int))=_;rw [e3]
 have hx:evX (evO (v - 3) p)=0:=by
  unfold evX Qxe;rw [Ae (show ¬ (evO (v - 3) p).Kind=1 by show ¬ (2:Int)=1;decide),Af (show (evO (v - 3) p).Kind=2 from rfl),Af (show evO (v - 3) p=evO (evO (v - 3) p).Proto (evO (v - 3) p).Packet from rfl),Ae (show ¬ (evO (v - 3) p).Packet.Kind=3 from h3)];show mqE (3+(v - 3)) p=0;rw [e3];exact hp
 refine ⟨evO (v - 3) p,?_,hx,?_,rfl,hv,.inr rfl⟩
 ·unfold toX;rw [Af hp,Ae h3]
 unfold frX;rw [Af (show (evO (v - 3) p).Proto=1∨(evO (v - 3) p).Proto=2 from hpr),Af hx];show (3+(v - 3),p,(0:Int))=_;rw [e3]
end
end Go.Av
namespace Go.Av
noncomputable section
theorem Z6b {e:Qe} (h:LE e) (hs:Z1m (pkE e)) (hp:e.Proto=1∨e.Proto=2) (h0:evX e=0):Tot (fun N=>Wr N e Z09) (Qxh (3+e.Proto) (pkE e),0):=by
 refine Ar ?_;have hm:=(Z61 hp h0).1;have hk:=Z07 h
 have ef:frX e=(3+e.Proto,pkE e,0):=by unfold frX;rw [Af hp,Af h0]
 have eb:Q1m (mqE (3+e.Proto) (pkE e)) (Qxh (3+e.Proto) (pkE e))=(Qxh (3+e.Proto) (pkE e),0):=by unfold Q1m;rw [Af hm]
 unfold Wr;refine Au (v:=true) (.of fun _=>rfl) ?_;refine Aw (fun g=>nomatch g) (fun _=>?_);refine Au (Z1k h) ?_;rw [ef];refine Aw (fun g=>nomatch g) (fun _=>?_);refine Au (Z3e hk) ?_;rw [eb];refine Aw (fun g=>nomatch g) (fun _=>?_);have hl:=Qwu hk hs (v:=3+e.Proto);rw [Qy];refine Aw (fun g=>?_) (fun _ => .ret rfl);have g:((Qxh (3+e.Proto) (pkE e)).length:Int)>1048576:=Aa g;omega
theorem Z5j {e:Qe} (h:LE e) (hs:Z1m (pkE e)):TotP (fun N=>(X0 N e).bind fun v16=>
 cond (Q3 .neq v16.2.2 0)
 (some (Q3 .eql v16.1 0))
 ((Vh N v16.1 v16.2.1).bind fun v19=>
 (Zf N).bind fun v21=>
 (Wr N e v21).bind fun v23=>
 (Yd N v16.1 v16.2.1).bind fun v25=>
 cond (Q3 .eql v19.2 0)
 ((Y9 N v19.1 e).bind fun v28=>
 cond v28
 (cond (Q3 .eql v23.2 0)
 (cond (Q3 .eql v25.2 0)
 (some (Q0p .eql v23.1 v25.1))
 (some false))
 (some false))
 (some false))
 (some false))) (· = true):=by
 refine Au (Z1k h) ?_
 by_cases hp:e.Proto=1∨e.Proto=2
 rotate_left
 ·have ef:frX e=(0,zP,2):=by unfold frX;rw [Ae hp]
  rw [ef];exact Aw (fun _ => .ret rfl) (fun g=>nomatch g)
 by_cases h0:evX e=0
 rotate_left
 ·have ef:frX e=(0,zP,evX e):=by unfold frX;rw [Af hp,Ae h0]
  rw [ef,Qq];exact Aw (fun _ => .ret rfl) (fun g=>absurd (Decidable.byContradiction fun x=>Ac g x) h0)
 have ef:frX e=(3+e.Proto,pkE e,0):=by unfold frX;rw [Af hp,Af h0]
 have hk:=Z07 h;obtain ⟨hm,ht⟩:=Z61 hp h0
 have eb:Q1m (mqE (3+e.Proto) (pkE e)) (Qxh (3+e.Proto) (pkE e))=(Qxh (3+e.Proto) (pkE e),0):=by unfold Q1m;rw [Af hm]
 rw [ef];refine Aw (fun g=>nomatch g) (fun _=>?_);have t1:=toO hk (v:=3+e.Proto);rw [ht] at t1;refine Au t1 ?_;refine Au (v:=Z09) (.of fun _=>rfl) ?_;refine Au (Z6b h hs hp h0) ?_;have t2:=Z2p hk (v:=3+e.Proto);rw [eb] at t2;refine Au t2 ?_;refine Aw (fun _=>?_) (fun g=>nomatch g);refine At (Qff e e h.oks) (fun b hb=>?_);obtain rfl:=hb.2 rfl;refine Aw (fun _=>?_) (fun g=>nomatch g);refine Aw (fun _=>?_) (fun g=>nomatch g);refine Aw (fun _ => .ret ?_) (fun g=>nomatch g);rw [Gq,Ad rfl]
theorem zLE {e:Qe} (ht:e.Topic.length≤2000) (hl:e.Payload.length≤2000) (hp:OkP e.Props) (hk:Qd0 e.Packet) (hh:e.Hops = []) (hm:e.Msg=zM) (hf:e.Frame=zF):LE e:=by
 refine ⟨ht,hl,hp,hk,?_,?_⟩
 ·rw [hh,hm];exact ⟨Lm _,fun x hx=>(nomatch hx),Lm _,Lm _⟩
 rw [hf];exact ⟨fun x hx=>(nomatch hx),by show Q2.szs []<160000000;decide,by show Q2.wgts []<4000000000;decide⟩
theorem Z5f {pr:Int} {p:Q1} (h:Qd0 p):LE (evM pr p):=zLE h.topic h.payload h.props Z56 rfl rfl rfl
theorem Z4w {pr:Int} {p:Q1} (h:Qd0 p):LE (evO pr p):=zLE (Lm _) (Lm _) ⟨Lm _,fun x hx=>(nomatch hx)⟩ h rfl rfl rfl
theorem Qtr (v:Int) (p:Q1) (e:Qe) (hp:Qbm p) (he:Qhi e):TotP (fun N=>Wb N v p e) (· = true):=by
 unfold Wb;refine Au (v:=true) ⟨200,fun N hN=>by obtain ⟨M,rfl⟩:∃ M,N=M+200:=⟨N - 200,by omega⟩;exact Z1o M⟩ ?_;refine Aw (fun g=>nomatch g) (fun _=>?_);refine At (Qnf p hp.Filters_ok.1 hp.Props_ok.1 hp.Will_ok.Props_ok.1) (fun b hb=>?_);refine Aw (fun _ => .ret rfl) (fun g=>?_);have hpk:=hb (bP g);have hoe:OkE e:=⟨he.Topic_ok,he.Props_ok.1,he.Packet_ok.Filters_ok.1,he.Packet_ok.Props_ok.1,he.Packet_ok.Will_ok.Props_ok.1⟩;refine At (TotP.and (Qyg e hoe he.Frame_ok.Values_ok.2) (Qxu e hoe he.Frame_ok.Values_ok.2)) (fun b hb=>?_);refine Aw (fun _ => .ret rfl) (fun g=>?_);have hle:=hb.1 (bP g);have hsm:=hb.2 (bP g)
 have hse:Z1m (pkE e):=by
  unfold pkE;split
  ·exact ⟨hsm.1,fun x hx=>(nomatch hx)⟩
  exact hsm.2
 have half:=Z5j hle hse;refine Au (Z4h hpk) ?_;refine Au (toO hpk) ?_;rw [Qq];refine Aw (fun g=>?_) (fun g=>?_)
 ·have h0:=Aa g
  have et:toX v p=(zE,mqE v p):=by unfold toX;rw [Ae h0]
  rw [et,Qa];exact Aw (fun g=>absurd (Aa g) h0) (fun _=>half)
 have h0:mqE v p=0:=Decidable.byContradiction fun x=>Ac g x
 have good:(p.Kind=3→p.Topic ≠ [])→TotP (fun N=>(X0 N (toX v p).1).bind fun v53=>
   cond (Q3 .neq (toX v p).2 0)
   (some false)
   (cond (Q3 .neq v53.2.2 0)
   (some false)
   (cond (Q3 .neq v53.1 v)
   (some false)
   ((Qi N p v53.2.1).bind fun v58=>
   cond (!v58)
   (some false)
   ((Zf N).bind fun v61=>
   (Wq N (toX v p).1 v61).bind fun v63=>
   cond (Q3 .neq v63 0)
   (some false)
   ((X0 N e).bind fun v16=>
   cond (Q3 .neq v16.2.2 0)
   (some (Q3 .eql v16.1 0))
   ((Vh N v16.1 v16.2.1).bind fun v19=>
   (Zf N).bind fun v21=>
   (Wr N e v21).bind fun v23=>
   (Yd N v16.1 v16.2.1).bind fun v25=>
   cond (Q3 .eql v19.2 0)
   ((Y9 N v19.1 e).bind fun v28=>
   cond v28
   (cond (Q3 .eql v23.2 0)
   (cond (Q3 .eql v25.2 0)
   (some (Q0p .eql v23.1 v25.1))
   (some false))
   (some false))
   (some false))
   (some false)))))))) (· = true):=fun ht=>by
  obtain ⟨x,e1,e2,e3,e4,e5,e6⟩:=Zvp h0 ht
  have hx:LE x:=by
   rcases e6 with rfl | rfl
   ·exact Z5f hpk
   exact Z4w hpk
  rw [e1];refine Au (Z1k hx) ?_;rw [e3];refine Aw (fun g=>nomatch g) (fun _=>?_);refine Aw (fun g=>nomatch g) (fun _=>?_);rw [Qq,Ab (fun y:v≠v=>y rfl)];refine Aw (fun g=>nomatch g) (fun _=>?_);refine At (Jj p p hpk.l) (fun b hb=>?_);obtain rfl:=hb.2 rfl;refine Aw (fun g=>nomatch g) (fun _=>?_);refine Au (v:=Z09) (.of fun _=>rfl) ?_;have hc:=Z6m hx (by rw [e4];omega);rw [e2] at hc;refine Au hc ?_;exact Aw (fun g=>nomatch g) (fun _=>half)
 rw [Qa,Gq];refine Aw (fun gk=>?_) (fun gk=>good fun x=>absurd x (Ac gk));refine Aw (fun gt=>?_) (fun gt=>good fun _=>Ac gt)
 have et:toX v p=(zE,11):=by unfold toX;rw [Af h0,Af (Aa gk),Af (Aa gt)]
 rw [et];exact Aw (fun g=>nomatch g) (fun _=>half)
theorem Z5o (v:Int) (p:Q1) (e:Qe) (hp:Qbm p) (he:Qhi e):∃ N,Wb N v p e=some true:=by
 obtain ⟨r,rfl,N,h⟩:=Qtr v p e hp he;exact ⟨N,h N (Lj _)⟩
end
end Go.Av
