/- Part of FrommqttCalls: the law returns true; no condition. -/
import Derived.Test.YtbcddiagcaddbaaGreatDoorPlainb
import Derived.Test.YtbcddiagcaddbaaGreatDoorOkX
set_option linter.all false
open Go.IntKind (wrap)
namespace Go.Av
noncomputable section
open Classical in
noncomputable def Z1b (p:Q1):Int:=if (Vf p.Client&&Vf p.User)=false then 6 else if (p.HasWill && !(Q0u p.Will.Topic))=true then 10 else if Q83 p.Kind [] p.Props≠0 then Q83 p.Kind [] p.Props else Q83 16 [] p.Will.Props
theorem Qxm {v:Int} {p:Q1} (h:Z4d v p):Qty v p=Z1b p:=by unfold Qty Z1b;rw [Af h]
section
variable {v:Int} {p:Q1} (h:Qdi p)
include h
theorem Qvy {V1 V3:Nat->List UInt8->Option Bool} {P1 P2:Nat->Option Int} (h1:∀ s,Tot (fun N=>V1 N s) (Vf s)) (h3:∀ s:List UInt8,s.length≤maxLen->Tot (fun N=>V3 N s) (Q0u s)) (hp1:Tot P1 (Q83 p.Kind [] p.Props)) (hp2:Tot P2 (Q83 16 [] p.Will.Props)) :
  TotP (fun N=>(V1 N p.Client).bind fun v13=>cond (!v13) (some (6:Int)) ((V1 N p.User).bind fun v16=>cond (!v16) (some 6) (cond p.HasWill ((V3 N p.Will.Topic).bind fun v20=>cond (!v20) (some 10) (cond (Q4 .gtr (p.Will.Payload.length:Int) 65535) (some 2) (cond (Q4 .gtr (p.Pass.length:Int) 65535) (some 2)
   ((P1 N).bind fun v25=>cond (Q4 .neq v25 0) (some v25) ((P2 N).bind fun v28=>some v28))))) (cond (Q4 .gtr (p.Will.Payload.length:Int) 65535) (some 2) (cond (Q4 .gtr (p.Pass.length:Int) 65535) (some 2) ((P1 N).bind fun v25=>cond (Q4 .neq v25 0) (some v25) ((P2 N).bind fun v28=>some v28))))))) (· = Z1b p):=by
 have l1:=h.wpayload;have l2:=h.pass;have l3:=h.wtopic
 have fin:(Vf p.Client&&Vf p.User)=true->(p.HasWill && !(Q0u p.Will.Topic))=false->TotP (fun N=>cond (Q4 .gtr (p.Will.Payload.length:Int) 65535) (some 2) (cond (Q4 .gtr (p.Pass.length:Int) 65535) (some 2) ((P1 N).bind fun v25=>cond (Q4 .neq v25 0) (some v25) ((P2 N).bind fun v28=>some v28)))) (· = Z1b p):=fun a b=>by
  unfold Z1b;rw [Ae (by rw [a];decide),Ae (by rw [b];decide),Qx,Qx];refine Aw (fun g=>absurd (Aa g) (by omega)) (fun _=>?_);refine Aw (fun g=>absurd (Aa g) (by omega)) (fun _=>?_);refine Au hp1 ?_;rw [Qp];refine Aw (fun g => .ret (by rw [Af (Aa g)])) (fun g=>?_);rw [Ae (Ac g)];exact Au hp2 (.ret rfl)
 refine Au (h1 _) ?_;refine Aw (fun g => .ret (by unfold Z1b;rw [Af (by rw [bN g];rfl)])) (fun g1=>?_);refine Au (h1 _) ?_;refine Aw (fun g => .ret (by unfold Z1b;rw [Af (by rw [bN g,Bool.and_false])])) (fun g2=>?_)
 have a:(Vf p.Client&&Vf p.User)=true:=by rw [bP g1,bP g2];rfl
 refine Aw (fun gw=>?_) (fun gw=>fin a (by rw [gw];rfl));refine Au (h3 _ (by have:=ml2;omega)) ?_;refine Aw (fun g => .ret (by unfold Z1b;rw [Ae (by rw [a];decide),Af (by rw [gw,g];rfl)])) (fun g=>fin a (by rw [gw,g];rfl))
theorem Z9z:Tot (fun N=>Q3j N v p) (Qty v p):=by
 refine Ar ?_;unfold Q3j;refine Au (v:=decide (v=4∨v=5)) (.of fun N=>Qek N v) ?_;refine Aw (fun g=>Qio fun x=>Ac (bN g) x.1) (fun gv=>?_);refine Au (v:=decide (p.Kind=1∨p.Kind=2)) (.of fun N=>?_) ?_
 ·unfold Q6k;rw [Q9,Q9,Cu];cases decide (p.Kind=1)<;>rfl
 refine Aw (fun g=>Qio fun x=>Ac (bN g) x.2.1) (fun gk=>?_);refine At (Z4x h) (fun b hb=>?_);refine Aw (fun g=>Qio fun x=>by rw [hb.2 x.2.2.1] at g;cases g) (fun gb=>?_);refine At (Z1x h) (fun c hc=>?_);refine Aw (fun g=>Qio fun x=>by rw [hc.2 x.2.2.2] at g;cases g) (fun gc=>?_);have hk:=Aa (bP gk);rw [Qxm ⟨Aa (bP gv),hk,hb.1 (bP gb),hc.1 (bP gc)⟩]
 haveI:Kd p.Kind:=⟨by omega,by omega⟩
 haveI:Kd 16:=⟨by decide,by decide⟩
 exact Qvy h (fun s=>Q9t s) (fun s hs=>Qfg s hs) (Q9u h p.Kind) (Qit _ h.wprops.len h.wprops.txt)
theorem Qz5 (hv:v=4∨v=5) (hk:p.Kind=1∨p.Kind=2) (s:Bool):TotP (fun N=>Z6 N v p s) (fun b=>b=true↔(s=false∧Qy4 v p)):=by
 have fal:∀ {A:Prop},¬ A->TotP (fun _=>some false) (fun b=>b=true↔A):=fun x => .ret ⟨fun y=>(nomatch y),fun y=>absurd y x⟩;have mono:∀ {f:Nat->Option Bool} {A B:Prop},TotP f (fun b=>b=true↔A)->(A↔B)->TotP f (fun b=>b=true↔B):=fun a b=>a.mono fun _ x=>x.trans b
 have j2:∀ s,TotP (fun N=>Zv N p s) (fun b=>b=true↔(s=false∧(p.Session=true->p.Code=0))):=fun s=>by
  unfold Zv;rw [Q9];refine Aw (fun g=>fal fun x=>by rw [x.1] at g;cases g) (fun g=>?_);refine Aw (fun g1 => .ret ⟨fun _=>⟨g,fun x=>by rw [bN g1] at x;cases x⟩,fun _=>rfl⟩) (fun g1 => .ret ⟨fun y=>⟨g,fun _=>Aa y⟩,fun x=>Ad (x.2 (bP g1))⟩)
 have j3:∀ o,TotP (fun N=>Qt N p o) (fun b=>b=true↔(o=false∧(0≤p.KeepAlive∧p.KeepAlive<65536)∧0≤p.Will.QoS∧p.Will.QoS≤2)):=fun o=>by
  unfold Qt;rw [Xv,Xv,X2,X2];refine Aw (fun g=>?_) (fun g=>fal fun x=>by rw [x.1] at g;cases g);refine Aw (fun g1=>?_) (fun g1=>fal fun x=>Ac g1 x.2.1.1);refine Aw (fun g2=>?_) (fun g2=>fal fun x=>by have:=Ac g2;have:=x.2.1.2;omega);refine Aw (fun g3 => .ret ?_) (fun g3=>fal fun x=>Ac g3 x.2.2.1);have g1:=Aa g1;have g2:=Aa g2;have g3:=Aa g3;exact ⟨fun y=>⟨bN g,⟨g1,by omega⟩,g3,Aa y⟩,fun x=>Ad x.2.2.2⟩
 have j1:(v=4->p.Props = []∧p.Will.Props = [])->∀ s,TotP (fun N=>Zs N v p s) (fun b=>b=true↔(s=false∧Qy4 v p)):=fun hz s=>by
  unfold Zs;refine Aw (fun g=>fal fun x=>by rw [x.1] at g;cases g) (fun gs=>?_);rw [Q9,Q9,Q9,Gz];refine Aw (fun gk=>?_) (fun gk=>?_)
  ·have gk:=Aa gk;refine Aw (fun g4=>?_) (fun g4=>?_)
   ·have g4:=Aa g4;refine Au (v:=decide (0≤p.Code∧p.Code≤5)) (.of fun N=>?_) ?_
    ·unfold Q0p;rw [Xv,X2,Bg];cases decide (p.Code≥0)<;>rfl
    refine Aw (fun g=>mono (j2 true) ⟨fun x=>(nomatch x.1),fun x=>absurd ((x.2.2.1 gk).1 g4) (Ac (bN g))⟩) (fun g=>?_);have g:=Aa (bP g);refine Aw (fun g5=>absurd (Aa g5) (by omega)) (fun _=>?_);exact mono (j2 false) ⟨fun x=>⟨gs,hz,fun _=>⟨fun _=>g,fun y=>absurd g4 y,x.2⟩,fun y=>absurd gk y⟩,fun x=>⟨rfl,(x.2.2.1 gk).2.2⟩⟩
   have g4:=Ac g4;refine Aw (fun _=>?_) (fun g5=>absurd (hv.resolve_left g4) (Ac g5));refine Au (Qia 2 p.Code) ?_;exact mono (j2 _) ⟨fun x=>⟨gs,hz,fun _=>⟨fun y=>absurd y g4,fun _=>bP x.1,x.2⟩,fun y=>absurd gk y⟩,fun x=>⟨by rw [(x.2.2.1 gk).2.1 g4];rfl,(x.2.2.1 gk).2.2⟩⟩
  have gk:=Ac gk;refine Aw (fun g4=>?_) (fun g4=>?_)
  ·have g4:=Aa g4
   have bad:∀ o,(o=false↔((p.Client = []->p.Clean=true)∧(p.HasPass=true->p.HasUser=true)))->TotP (fun N=>Qt N p o) (fun b=>b=true↔(s=false∧Qy4 v p)):=fun o ho=>
    mono (j3 o) ⟨fun x=>⟨gs,hz,fun y=>absurd y gk,fun _=>⟨fun _=>ho.1 x.1,x.2⟩⟩,fun x=>⟨ho.2 ((x.2.2.2 gk).1 g4),(x.2.2.2 gk).2⟩⟩
   have pas:(p.Client = []->p.Clean=true)->TotP (fun N=>cond p.HasPass (Qt N p (!p.HasUser)) (Qt N p false)) (fun b=>b=true↔(s=false∧Qy4 v p)):=fun a=>by
    refine Aw (fun g1=>bad _ ⟨fun x=>⟨a,fun _=>bP x⟩,fun x=>by rw [x.2 g1];rfl⟩) (fun g1=>bad _ ⟨fun _=>⟨a,fun x=>by rw [g1] at x;cases x⟩,fun _=>rfl⟩)
   refine Aw (fun g1=>?_) (fun g1=>pas fun x=>absurd x (Ac g1));refine Aw (fun g2=>bad _ ⟨fun x=>(nomatch x),fun x=>?_⟩) (fun g2=>pas fun _=>bP g2);have:=x.1 (Aa g1);rw [bN g2] at this;cases this
  have g4:=Ac g4;exact mono (j3 false) ⟨fun x=>⟨gs,hz,fun y=>absurd y gk,fun _=>⟨fun y=>absurd y g4,x.2⟩⟩,fun x=>⟨rfl,(x.2.2.2 gk).2⟩⟩
 have e0:∀ l:List Q6,l = []↔l.length=0:=fun l=>Mh.symm;unfold Z6;refine Aw (fun g=>fal fun x=>by rw [x.1] at g;cases g) (fun gs=>?_);rw [Q9,Qx,Qx,Q3,Q3]
 have j1x:∀ (b:Bool),TotP (fun N=>Zs N v p true) (fun b=>b=true↔False):=fun _=>by
  unfold Zs;exact .ret ⟨fun y=>(nomatch y),fun y=>y.elim⟩
 refine Aw (fun g4=>?_) (fun g4=>mono (j1 (fun x=>absurd x (Ac g4)) false) ⟨fun x=>⟨gs,x.2⟩,fun x=>⟨rfl,x.2⟩⟩);have g4:=Aa g4;refine Aw (fun g=>?_) (fun g=>?_)
 ·have g:=Aa g;exact mono (j1x true) ⟨fun x=>x.elim,fun x=>by rw [(x.2.1 g4).1] at g;exact absurd g (by decide)⟩
 have z1:p.Props = []:=(e0 _).2 (by have:=Ac g;omega)
 cases gw:decide ((p.Will.Props.length:Int)>0) with
 | true=>
  have gw:=Aa gw;exact mono (j1x true) ⟨fun x=>x.elim,fun x=>by rw [(x.2.1 g4).2] at gw;exact absurd gw (by decide)⟩
 | false=>
  have z2:p.Will.Props = []:=(e0 _).2 (by have:=Ac gw;omega);exact mono (j1 (fun _=>⟨z1,z2⟩) false) ⟨fun x=>⟨gs,x.2⟩,fun x=>⟨rfl,x.2⟩⟩
theorem Z2e:TotP (fun N=>Uy N v p) (fun b=>b=true↔Z4d v p):=by
 have j0x:TotP (fun N=>Z6 N v p true) (fun b=>b=true↔False):=by
  unfold Z6;exact .ret ⟨fun y=>(nomatch y),fun y=>y.elim⟩
 have mono:∀ {f:Nat->Option Bool} {A B:Prop},TotP f (fun b=>b=true↔A)->(A↔B)->TotP f (fun b=>b=true↔B):=fun a b=>a.mono fun _ x=>x.trans b;unfold Uy;refine Au (.of fun N=>Qek N v) ?_;refine Aw (fun g=>mono j0x ⟨fun x=>x.elim,fun x=>Ac (bN g) x.1⟩) (fun gv=>?_);have hv:=Aa (bP gv)
 have main:(p.Kind=1∨p.Kind=2)->TotP (fun N=>(V5 N v p).bind fun v48=>(Qk N p v48).bind fun v50=>Z6 N v p (!v50)) (fun b=>b=true↔Z4d v p):=fun hk=>by
  refine Au (.of fun N=>Z8h h N) ?_;refine At (Jt p (Qy8 p) h.l) (fun b hb=>?_);refine mono (Qz5 h hv hk (!b)) ⟨fun x=>⟨hv,hk,hb.1 (bP x.1),x.2⟩,fun x=>⟨by rw [hb.2 x.2.2.1];rfl,x.2.2.2⟩⟩
 rw [Qp,Qp];refine Aw (fun g1=>?_) (fun g1=>main (.inl (Decidable.byContradiction fun x=>Ac g1 x)));refine Aw (fun g2=>mono j0x ⟨fun x=>x.elim,fun x=>by have a:p.Kind≠1:=Aa g1;have b:p.Kind≠2:=Aa g2;exact x.2.1.elim a b⟩) (fun g2=>main (.inr (Decidable.byContradiction fun x=>Ac g2 x)))
theorem Z7h:Tot (fun N=>Vu N v p) (Qty v p):=by
 refine Ar ?_;unfold Vu;refine At (Z2e h) (fun b hb=>?_);refine Aw (fun g=>Qio fun x=>by rw [hb.2 x] at g;cases g) (fun g=>?_);have hF:=hb.1 (bP g);rw [Qxm hF]
 haveI:Kd p.Kind:=⟨by have:=hF.2.1;omega,by have:=hF.2.1;omega⟩
 haveI:Kd 16:=⟨by decide,by decide⟩
 have hw:Tot (fun N=>Q5 N v 16 p.Will.Props) (Q83 16 [] p.Will.Props):=by
  refine Ar ?_;unfold Q5;rw [Q9];refine Aw (fun g=>?_) (fun _=>Au (Qg0 _ h.wprops.len h.wprops.txt) (.ret rfl));rw [(hF.2.2.2.1 (Aa g)).2];exact Aw (fun g=>nomatch g) (fun _ => .ret rfl)
 exact Qvy h (fun s=>Q4k s) (fun s hs=>Qfi s hs) (Q7c h fun x=>(hF.2.2.2.1 x).1) hw
end
end
end Go.Av
namespace Go.Av
noncomputable section
theorem Qpe:∀ l:List (List UInt8),Go.Lib.join l []=l.flatten
 | []=>rfl
 | [a]=>by simp [Go.Lib.join]
 | a::b::l=>by
  have:=Qpe (b::l);simp [Go.Lib.join] at this ⊢;exact this
theorem Qzh (N:Nat) (l:List (List UInt8)) (h1:l.length≤10) (h2:l.flatten.length≤1000000000):Wb N l=some l.flatten:=by
 unfold Wb Q8w;rw [Qpe,show (Nat.ble l.length 140737488355328&&Nat.ble l.flatten.length 140737488355328)=true by rw [La,Lm,Lm];omega];rfl
def Qk9 (b:Bool) (n:Int):Int:=cond b n 0
def Quq (p:Q1):Int:=Qk9 p.HasUser 128+Qk9 p.HasPass 64+Qk9 p.Will.Retain 32+8 * p.Will.QoS+Qk9 p.HasWill 4+Qk9 p.Clean 2
def Qkx (v k:Int) (l:List Q6):List UInt8:=if v=4 then [] else (Qkb k l).1
def Qk7 (v:Int) (p:Q1):List UInt8:=cond (decide (p.Kind=2)) ([cond p.Session 1 0]++(Qbq p.Code.toNat 1++Qkx v p.Kind p.Props))
 ([0,4,77,81,84,84]++(Qbq v.toNat 1++(Qbq (Quq p).toNat 1++(Qbq p.KeepAlive.toNat 2++(Qkx v p.Kind p.Props++(Qhk p.Client++(cond p.HasWill (Qkx v 16 p.Will.Props++(Qhk p.Will.Topic++Qhk p.Will.Payload)) []++(cond p.HasUser (Qhk p.User) []++cond p.HasPass (Qhk p.Pass) []))))))))
noncomputable def Z4g (v:Int) (p:Q1):List UInt8×Int:=if Qty v p=0 then (Qk7 v p,0) else ([],Qty v p)
theorem Z1c {v:Int} {p:Q1} (h0:Qty v p=0):Z4d v p:=by
 refine Mj fun x=>?_;unfold Qty at h0;rw [Ae x] at h0;exact absurd h0 (by decide)
theorem Z1v {p:Q1} (hq:0≤p.Will.QoS∧p.Will.QoS≤2):0≤Quq p∧Quq p<256:=by
 unfold Quq Qk9;cases p.HasUser<;>cases p.HasPass<;>cases p.Will.Retain<;>cases p.HasWill<;>cases p.Clean<;>simp only [Ai,Ah]<;>omega
def orC (b:Bool) (o n:Int):Int:=cond b (orI .i64 o n) o
theorem Zud (N n:Nat) (p:Q1) (o:Int):Qj N p (n+1) o 0=Qj N p n (orC p.Clean o 2) 1:=by
 show cond p.Clean (Qj N p n (orI .i64 o 2) 1) (Qj N p n o 1)=_;unfold orC;cases p.Clean<;>rfl
theorem Zvn (N n:Nat) (p:Q1) (o:Int):Qj N p (n+1) o 1=Qj N p n (orC p.HasWill o 4) 2:=by
 show cond p.HasWill (Qj N p n (orI .i64 o 4) 2) (Qj N p n o 2)=_;unfold orC;cases p.HasWill<;>rfl
theorem Zrx (N n:Nat) (p:Q1) (o:Int):Qj N p (n+1) o 2=Qj N p n (orC p.Will.Retain o 32) 3:=by
 show cond p.Will.Retain (Qj N p n (orI .i64 o 32) 3) (Qj N p n o 3)=_;unfold orC;cases p.Will.Retain<;>rfl
theorem Zrj (N n:Nat) (p:Q1) (o:Int):Qj N p (n+1) o 3=Qj N p n (orC p.HasPass o 64) 4:=by
 show cond p.HasPass (Qj N p n (orI .i64 o 64) 4) (Qj N p n o 4)=_;unfold orC;cases p.HasPass<;>rfl
theorem Zu0 (N n:Nat) (p:Q1) (o:Int):Qj N p (n+1) o 4=Qj N p n (orC p.HasUser o 128) 5:=by
 show cond p.HasUser (Qj N p n (orI .i64 o 128) 5) (Qj N p n o 5)=_;unfold orC;cases p.HasUser<;>rfl
theorem Z3q {p:Q1} (hk:p.Kind=1) (hq:0≤p.Will.QoS∧p.Will.QoS≤2):Tot (fun N=>Q38 N p) (Quq p):=by
 refine ⟨10,fun N hN=>?_⟩;obtain ⟨M,rfl⟩:∃ M,N=M+6:=⟨N - 6,by omega⟩;unfold Q38 Quq;rw [hk];show Qj (M+6) p (M+5+1) (Qbp .i64 (Q7g .i64 p.Will.QoS 3) 3) 0=_;rw [Zud,show M+5=M+4+1 from rfl,Zvn,show M+4=M+3+1 from rfl,Zrx,show M+3=M+2+1 from rfl,Zrj,show M+2=M+1+1 from rfl,Zu0];show some _=_
 have hq3:p.Will.QoS=0∨p.Will.QoS=1∨p.Will.QoS=2:=by omega
 generalize p.Will.QoS=q at hq3;generalize p.Clean=a;generalize p.HasWill=b;generalize p.Will.Retain=c;generalize p.HasPass=d;generalize p.HasUser=u
 have all:∀ q∈([0,1,2]:List Int),∀ a b c d u:Bool,orC u (orC d (orC c (orC b (orC a (Qbp .i64 (Q7g .i64 q 3) 3) 2) 4) 32) 64) 128=Qk9 u 128+Qk9 d 64+Qk9 c 32+8 * q+Qk9 b 4+Qk9 a 2:=by decide +kernel
 rw [all q (by simp;omega) a b c d u]
theorem Z2v {p:Q1} (hk:p.Kind=1) (hq:0≤p.Will.QoS∧p.Will.QoS≤2) (N:Nat):Jm N p=some (Quq p):=by
 unfold Jm Quq X3;rw [hk]
 have hq3:p.Will.QoS=0∨p.Will.QoS=1∨p.Will.QoS=2:=by omega
 generalize p.Will.QoS=q at hq3;generalize p.Clean=a;generalize p.HasWill=b;generalize p.Will.Retain=c;generalize p.HasPass=d;generalize p.HasUser=u
 have all:∀ q∈([0,1,2]:List Int),∀ a b c d u:Bool,wrap .i64 ((wrap .i64 ((wrap .i64 ((wrap .i64 ((wrap .i64 (Qk9 u 128+Qk9 d 64))+Qk9 c 32))+(wrap .i64 ((((wrap .i64 (((q:Int).tmod 4)+4)):Int).tmod 4) * 8))))+Qk9 b 4))+Qk9 a 2)=Qk9 u 128+Qk9 d 64+Qk9 c 32+8 * q+Qk9 b 4+Qk9 a 2:=by decide +kernel
 rw [← all q (by simp;omega) a b c d u];unfold Qk9;cases a<;>cases b<;>cases c<;>cases d<;>cases u<;>rfl
end
end Go.Av
namespace Go.Av
noncomputable section
section
variable {v:Int} {p:Q1} (h:Qdi p)
include h
theorem Z0v (hv:v=4∨v=5) {k:Int} [Kd k] {l:List Q6} (hl:OkP l):Tot (fun N=>Q2t N v k l) (Qkx v k l):=by
 refine Ar ?_;unfold Q2t Qkx;rw [Q9];refine Aw (fun g => .ret (by rw [Af (Aa g)])) (fun g=>?_);rw [Ae (Ac g)];exact Au (Q9p _ hl.len hl.txt) (.ret rfl)
theorem Q56 {k:Int} {l:List Q6} (hl:OkP l):(Qkx v k l).length≤4200100:=by
 unfold Qkx;split
 ·exact Ln _
 exact Qdl hl.len
theorem Qg1 {s:List UInt8} (hs:s.length≤65535):Tot (fun N=>Xy N s) (Qhk s):=by
 refine Ar ?_;unfold Xy;exact Au (Qmg s hs) (.ret rfl)
theorem Qdc {s:List UInt8} (hs:s.length≤65535):Tot (fun N=>Qz N s) (Qhk s):=by
 refine Ar ?_;unfold Qz;exact Au (Qna s hs) (.ret rfl)
theorem Z83:Tot (fun N=>Q2s N v p) (Z4g v p):=by
 refine Ar ?_;unfold Q2s Z4g;refine Au (Z9z h) ?_;rw [Qp];refine Aw (fun g => .ret (by rw [Ae (Aa g)])) (fun g=>?_);have h0:Qty v p=0:=Decidable.byContradiction fun x=>Ac g x;rw [Af h0];have hF:=Z1c h0;obtain ⟨hv,hk,_,hz,h2,h1⟩:=hF
 haveI:Kd p.Kind:=⟨by omega,by omega⟩
 haveI:Kd 16:=⟨by decide,by decide⟩
 have l1:=h.client;have l2:=h.user;have l3:=h.pass;have l4:=h.wtopic;have l5:=h.wpayload;have b1:=fun n=>Xr 1 n;have b2:=fun n=>Xr 2 n;have t1:=Q56 h (v:=v) (k:=p.Kind) h.props;have t2:=Q56 h (v:=v) (k:=16) h.wprops;have d1:=V9 p.Client;have d2:=V9 p.User;have d3:=V9 p.Pass;have d4:=V9 p.Will.Topic;have d5:=V9 p.Will.Payload;refine Au (Z0v h hv h.props) ?_;rw [Q9];refine Aw (fun gk=>?_) (fun gk=>?_)
 ·have gk':=Aa gk
  have hc:0≤p.Code∧p.Code<256:=by
   by_cases h4:v=4
   ·have:=(h2 gk').1 h4;omega
   exact Qpl h ((h2 gk').2.1 h4)
  have hp:=Q17 p.Code (by omega) 1 (by omega);refine Aw (fun gs=>?_) (fun gs=>?_)
  all_goals refine Au hp ?_
  all_goals refine Au (.of fun N=>Qzh N _ (by show 3≤10;omega) (by simp only [Ma,Mr,Lf,Li,Mc,b1];omega)) (.ret ?_)
  all_goals unfold Qk7;rw [gk,gs];simp only [Ai,Ah,Ma,Mr,Lu]
 have gk':=Ac gk;have hk1:p.Kind=1:=hk.resolve_right gk';have hr:=(h1 gk').2;have hg:=Z1v hr.2;refine Au (Q17 v (by omega) 1 (by omega)) ?_;refine Au (Z3q hk1 hr.2) ?_;refine Au (Q17 (Quq p) (by omega) 1 (by omega)) ?_;refine Au (Q17 p.KeepAlive (by omega) 2 (by omega)) ?_;refine Au (Qg1 h (by omega)) ?_;refine Au (.of fun N=>Qzh N _ (by show 6≤10;omega) (by simp only [Ma,Mr,Lf,Li,Mc,b1,b2];omega)) ?_;refine Aw (fun gw=>?_) (fun gw=>?_)
 ·refine Au (Z0v h hv h.wprops) ?_;refine Au (Qg1 h (s:=p.Will.Topic) (by omega)) ?_;refine Au (Qg1 h (s:=p.Will.Payload) (by omega)) ?_;refine Au (.of fun N=>Qzh N _ (by show 4≤10;omega) (by simp only [Ma,Mr,Lf,Li,Mc,b1,b2];omega)) ?_;refine Aw (fun gu=>?_) (fun gu=>?_)
  ·refine Au (Qg1 h (s:=p.User) (by omega)) ?_;refine Au (.of fun N=>Qzh N _ (by show 2≤10;omega) (by simp only [Ma,Mr,Lf,Li,Mc,b1,b2];omega)) ?_;refine Aw (fun gp=>?_) (fun gp => .ret ?_)
   ·refine Au (Qg1 h (s:=p.Pass) (by omega)) ?_;refine Au (.of fun N=>Qzh N _ (by show 2≤10;omega) (by simp only [Ma,Mr,Lf,Li,Mc,b1,b2];omega)) (.ret ?_);unfold Qk7;rw [gk,gw,gu,gp];simp only [Ai,Ah,Ma,Mr,Lu,Lq]
   unfold Qk7;rw [gk,gw,gu,gp];simp only [Ai,Ah,Ma,Mr,Lu,Lq]
  refine Aw (fun gp=>?_) (fun gp => .ret ?_)
  ·refine Au (Qg1 h (s:=p.Pass) (by omega)) ?_;refine Au (.of fun N=>Qzh N _ (by show 2≤10;omega) (by simp only [Ma,Mr,Lf,Li,Mc,b1,b2];omega)) (.ret ?_);unfold Qk7;rw [gk,gw,gu,gp];simp only [Ai,Ah,Ma,Mr,Lu,Lq,Mx]
  unfold Qk7;rw [gk,gw,gu,gp];simp only [Ai,Ah,Ma,Mr,Lu,Lq]
 refine Aw (fun gu=>?_) (fun gu=>?_)
 ·refine Au (Qg1 h (s:=p.User) (by omega)) ?_;refine Au (.of fun N=>Qzh N _ (by show 2≤10;omega) (by simp only [Ma,Mr,Lf,Li,Mc,b1,b2];omega)) ?_;refine Aw (fun gp=>?_) (fun gp => .ret ?_)
  ·refine Au (Qg1 h (s:=p.Pass) (by omega)) ?_;refine Au (.of fun N=>Qzh N _ (by show 2≤10;omega) (by simp only [Ma,Mr,Lf,Li,Mc,b1,b2];omega)) (.ret ?_);unfold Qk7;rw [gk,gw,gu,gp];simp only [Ai,Ah,Ma,Mr,Lu,Lq,Mx]
  unfold Qk7;rw [gk,gw,gu,gp];simp only [Ai,Ah,Ma,Mr,Lu,Lq,Mx]
 refine Aw (fun gp=>?_) (fun gp => .ret ?_)
 ·refine Au (Qg1 h (s:=p.Pass) (by omega)) ?_;refine Au (.of fun N=>Qzh N _ (by show 2≤10;omega) (by simp only [Ma,Mr,Lf,Li,Mc,b1,b2];omega)) (.ret ?_);unfold Qk7;rw [gk,gw,gu,gp];simp only [Ai,Ah,Ma,Mr,Lu,Lq,Mx]
 unfold Qk7;rw [gk,gw,gu,gp];simp only [Ai,Ah,Ma,Mr,Lu,Lq,Mx]
theorem Z9b:Tot (fun N=>Gp N v p) (Z4g v p):=by
 refine Ar ?_;unfold Gp Z4g;refine Au (Z7h h) ?_;rw [Qp];refine Aw (fun g => .ret (by rw [Ae (Aa g)])) (fun g=>?_);have h0:Qty v p=0:=Decidable.byContradiction fun x=>Ac g x;rw [Af h0];have hF:=Z1c h0;obtain ⟨hv,hk,_,hz,h2,h1⟩:=hF
 haveI:Kd p.Kind:=⟨by omega,by omega⟩
 haveI:Kd 16:=⟨by decide,by decide⟩
 have l1:=h.client;have l2:=h.user;have l3:=h.pass;have l4:=h.wtopic;have l5:=h.wpayload;have b1:=fun n=>Xr 1 n;have b2:=fun n=>Xr 2 n;have t1:=Q56 h (v:=v) (k:=p.Kind) h.props;have t2:=Q56 h (v:=v) (k:=16) h.wprops;have d1:=V9 p.Client;have d2:=V9 p.User;have d3:=V9 p.Pass;have d4:=V9 p.Will.Topic;have d5:=V9 p.Will.Payload;have tl:∀ (k:Int) [Kd k] (l:List Q6),OkP l->Tot (fun N=>Z0 N v k l) (Qkx v k l):=fun k _ l hl=>Qrn hv l hl.len hl.txt;rw [Q9];refine Aw (fun gk=>?_) (fun gk=>?_)
 ·have gk':=Aa gk
  have hc:0≤p.Code∧p.Code<256:=by
   by_cases h4:v=4
   ·have:=(h2 gk').1 h4;omega
   exact Qpl h ((h2 gk').2.1 h4)
  refine Au (v:=cond p.Session 1 0) (.of fun N=>by unfold X3;cases p.Session<;>rfl) ?_;refine Au (tl _ _ h.props) ?_;refine Ax (by rw [Lm];simp only [Li,Mc];omega) (.ret ?_);have e:=Qv6 p.Code hc;unfold Qk7;rw [gk,← e];cases p.Session<;>rfl
 have gk':=Ac gk;have hk1:p.Kind=1:=hk.resolve_right gk';have hr:=(h1 gk').2;have hg:=Z1v hr.2;have e1:=Qv6 v (by omega);have e2:=Qv6 (Quq p) hg
 have ev : [UInt8.ofNat (wrap .u8 v).toNat,UInt8.ofNat (wrap .u8 (Quq p)).toNat]=Qbq v.toNat 1++Qbq (Quq p).toNat 1:=by rw [← e1,← e2];rfl
 have hn:Tot (fun N=>Qz N [77,81,84,84]) ([0,4,77,81,84,84]:List UInt8):=Qdc h (s := [77,81,84,84]) (by decide);refine Au hn ?_;refine Au (.of fun N=>Z2v hk1 hr.2 N) ?_;rw [ev];have ck:∀ {a b:List UInt8} {f:Nat->Option (List UInt8×Int)} {Q:List UInt8×Int->Prop},a.length≤90000000->b.length≤9000000->TotP f Q->TotP (fun N=>cond (Nat.ble (a.length+b.length) 4611686018427387904) (f N) none) Q:=fun h1 h2 hf=>Ax (by rw [Lm];omega) hf;refine ck (by decide) (by simp only [Lf,b1];omega) ?_;refine Au (Q3f p.KeepAlive (by omega) 2 (by omega)) ?_;refine ck (by simp only [Lf,Li,Mc,b1,b2];omega) (by simp only [b2];omega) ?_;refine Au (tl _ _ h.props) ?_;refine ck (by simp only [Lf,Li,Mc,b1,b2];omega) (by omega) ?_;refine Au (Qdc h (by omega)) ?_;refine ck (by simp only [Lf,Li,Mc,b1,b2];omega) (by omega) ?_;refine Aw (fun gw=>?_) (fun gw=>?_)
 ·refine Au (tl _ _ h.wprops) ?_;refine ck (by simp only [Lf,Li,Mc,b1,b2];omega) (by omega) ?_;refine Au (Qdc h (s:=p.Will.Topic) (by omega)) ?_;refine ck (by simp only [Lf,Li,Mc,b1,b2];omega) (by omega) ?_;refine Au (Qdc h (s:=p.Will.Payload) (by omega)) ?_;refine ck (by simp only [Lf,Li,Mc,b1,b2];omega) (by omega) ?_;refine Aw (fun gu=>?_) (fun gu=>?_)
  ·refine Au (Qdc h (s:=p.User) (by omega)) ?_;refine ck (by simp only [Lf,Li,Mc,b1,b2];omega) (by omega) ?_;refine Aw (fun gp=>?_) (fun gp => .ret ?_)
   ·refine Au (Qdc h (s:=p.Pass) (by omega)) ?_;refine ck (by simp only [Lf,Li,Mc,b1,b2];omega) (by omega) (.ret ?_);unfold Qk7;rw [gk,gw,gu,gp];simp only [Ai,Ah,Lu,Lq]
   unfold Qk7;rw [gk,gw,gu,gp];simp only [Ai,Ah,Lu,Lq]
  refine Aw (fun gp=>?_) (fun gp => .ret ?_)
  ·refine Au (Qdc h (s:=p.Pass) (by omega)) ?_;refine ck (by simp only [Lf,Li,Mc,b1,b2];omega) (by omega) (.ret ?_);unfold Qk7;rw [gk,gw,gu,gp];simp only [Ai,Ah,Lu,Lq,Mx]
  unfold Qk7;rw [gk,gw,gu,gp];simp only [Ai,Ah,Lu,Lq]
 refine Aw (fun gu=>?_) (fun gu=>?_)
 ·refine Au (Qdc h (s:=p.User) (by omega)) ?_;refine ck (by simp only [Lf,Li,Mc,b1,b2];omega) (by omega) ?_;refine Aw (fun gp=>?_) (fun gp => .ret ?_)
  ·refine Au (Qdc h (s:=p.Pass) (by omega)) ?_;refine ck (by simp only [Lf,Li,Mc,b1,b2];omega) (by omega) (.ret ?_);unfold Qk7;rw [gk,gw,gu,gp];simp only [Ai,Ah,Lu,Lq,Mx]
  unfold Qk7;rw [gk,gw,gu,gp];simp only [Ai,Ah,Lu,Lq,Mx]
 refine Aw (fun gp=>?_) (fun gp => .ret ?_)
 ·refine Au (Qdc h (s:=p.Pass) (by omega)) ?_;refine ck (by simp only [Lf,Li,Mc,b1,b2];omega) (by omega) (.ret ?_);unfold Qk7;rw [gk,gw,gu,gp];simp only [Ai,Ah,Lu,Lq,Mx]
 unfold Qk7;rw [gk,gw,gu,gp];simp only [Ai,Ah,Lu,Lq,Mx]
end
end
end Go.Av
namespace Go.Av
noncomputable section
def Z8d (p:Q1):Q1:=⟨p.Kind,p.Dup,p.Retain,p.QoS,p.ID,p.Topic,p.Payload,false,0,[],false,[],false,[],false,(⟨[],[],0,false,[]⟩:Y5),false,0,[],[],p.Props⟩
def Qtc (v:Int) (p:Q1):Prop:=(v=4∨v=5)∧p.Kind=3
def Qew (p:Q1):Prop:=(0≤p.QoS∧p.QoS≤2)∧(p.QoS=0->p.Dup=false)
instance (p:Q1):Decidable (Qew p):=by unfold Qew;infer_instance
def Quo (v:Int) (p:Q1):Prop:=p=Z8d p∧(v=4->p.Props = [])∧(p.QoS=0->p.ID=0)∧(p.QoS≠0->1≤p.ID∧p.ID≤65535)
def Qt8 (v:Int) (p:Q1):Prop:=Q0u p.Topic=true∨(v=5∧Qgt p.Props 35=true∧p.Topic = [])
open Classical in
noncomputable def Qk5 (v:Int) (p:Q1):Int:=if Qtc v p then (if Qew p then (if Quo v p then (if Qt8 v p then Q83 3 [] p.Props else 10) else 2) else 7) else 2
def Z07 (p:Q1):Int:=2 * p.QoS+(if p.Retain then 1 else 0)+(if p.Dup then 8 else 0)
theorem Zve (l:List Q6) (hl:l.length≤30) (id:Int):TotP (fun N=>Q9e N l id) (fun v=>v.2=Qgt l id):=by
 unfold Q9e;refine Q70 (L:=fun N n i=>Q2e N l id n i) l.length (fun i=>∀ j (h:j<l.length),j<i->l[j].ID≠id) (fun i hi hj=>?_) (fun hj=>?_) (fun j _ hj=>by omega)
 ·show Stp _ _ _ (fun N n=>cond (Q4 .lss (i:Int) ((Q7 Q6.cells l).length:Int)) _ _);rw [Q3,Qf];refine AE (fun _=>?_) (fun h=>by have:=Ac h;omega);refine AD (Z3 hi) ?_;rw [Q9];refine AE (fun h=>?_) (fun h=>?_)
  ·exact AA (Nq.2 ⟨_,Md hi,h⟩).symm
  rw [w64 _ (by omega)];refine AB (L:=fun N n i=>Q2e N l id n i) _ ⟨by omega,fun j hj' hji=>?_⟩
  by_cases e:j=i
  ·subst e;exact Ac h
  exact hj j hj' (by omega)
 show Stp _ _ _ (fun N n=>cond (Q4 .lss (l.length:Int) ((Q7 Q6.cells l).length:Int)) _ _);rw [Q3,Qf];refine AE (fun h=>by have:=Aa h;omega) (fun _=>AA ?_)
 cases hc:Qgt l id with
 | false=>rfl
 | true=>
  obtain ⟨p,hp,e⟩:=Nq.1 hc;obtain ⟨j,hj',rfl⟩:=Nh hp;exact absurd (Aa e) (hj j hj' hj')
instance:Kd 3:=⟨by decide,by decide⟩
section
variable {v:Int} {p:Q1} (h:Qdi p)
theorem Qnu (a:¬ Qtc v p):Qk5 v p=2:=by unfold Qk5;rw [Ae a]
theorem Qwv (a:Qtc v p) (b:¬ Qew p):Qk5 v p=7:=by unfold Qk5;rw [Af a,Ae b]
theorem Qv9 (a:Qtc v p) (b:Qew p) (c:¬ Quo v p):Qk5 v p=2:=by unfold Qk5;rw [Af a,Af b,Ae c]
theorem Qxa (a:Qtc v p) (b:Qew p) (c:Quo v p) (d:¬ Qt8 v p):Qk5 v p=10:=by unfold Qk5;rw [Af a,Af b,Af c,Ae d]
theorem Qmp (a:Qtc v p) (b:Qew p) (c:Quo v p) (d:Qt8 v p):Qk5 v p=Q83 3 [] p.Props:=by unfold Qk5;rw [Af a,Af b,Af c,Af d]
theorem Z25 (d r:Bool) (q:Int) (hq:q=0∨q=1∨q=2):cond r (cond d (orI .i64 (orI .i64 (wrap .i64 (q * 2)) 1) 8) (orI .i64 (wrap .i64 (q * 2)) 1)) (cond d (orI .i64 (wrap .i64 (q * 2)) 8) (wrap .i64 (q * 2)))=2 * q+(if r then 1 else 0)+(if d then 8 else 0):=by
 rcases hq with rfl | rfl | rfl<;>cases d<;>cases r<;>decide
theorem Qy2 (a:Qtc v p):Tot (fun N=>Q1f N v p) (if Qew p then (Z07 p,0) else (0,7)):=by
 classical
 refine Ar ?_;unfold Q1f;refine Au (v:=true) (.of fun N=>(Qek N v).trans (by rw [Ad a.1])) ?_;refine Aw (fun g=>nomatch g) (fun _=>?_);rw [a.2];refine Au (v:=true) (.of fun N=>by rcases a.1 with e | e<;>rw [e]<;>rfl) ?_;refine Aw (fun g=>nomatch g) (fun _=>?_);refine Aw (fun g=>nomatch g) (fun _=>?_);have no:¬ Qew p->TotP (fun _=>some ((0:Int),(7:Int))) (· = if Qew p then (Z07 p,0) else (0,7)):=fun x => .ret (by rw [Ae x]);rw [Qf,Qx,Q9];refine Aw (fun g=>no fun x=>by have:=Aa g;have:=x.1;omega) (fun g1=>?_);refine Aw (fun g=>no fun x=>by have:=Aa g;have:=x.1;omega) (fun g2=>?_);have g1:=Ac g1;have g2:=Ac g2
 have hq:p.QoS=0∨p.QoS=1∨p.QoS=2:=by omega
 have fe:=Z25 p.Dup p.Retain p.QoS hq;refine Aw (fun g3=>?_) (fun g3=>?_)
 ·have g3:=Aa g3;refine Aw (fun gd=>no fun x=>by rw [x.2 g3] at gd;cases gd) (fun gd=>?_);rw [Af (show Qew p from ⟨by omega,fun _=>gd⟩)];unfold Z07;rw [← fe,gd];exact Aw (fun g => .ret (by rw [g];rfl)) (fun g => .ret (by rw [g];rfl))
 rw [Af (show Qew p from ⟨by omega,fun x=>absurd x (Ac g3)⟩)];unfold Z07;rw [← fe];exact Aw (fun g=>Aw (fun g' => .ret (by rw [g,g'];rfl)) (fun g' => .ret (by rw [g,g'];rfl))) (fun g=>Aw (fun g' => .ret (by rw [g,g'];rfl)) (fun g' => .ret (by rw [g,g'];rfl)))
theorem Z42 (d r:Bool) (q:Int) (hq:q=0∨q=1∨q=2):cond d (cond r (wrap .i64 ((wrap .i64 ((wrap .i64 (2 * q))+8))+1)) (wrap .i64 ((wrap .i64 (2 * q))+8))) (cond r (wrap .i64 ((wrap .i64 (2 * q))+1)) (wrap .i64 (2 * q)))=2 * q+(if r then 1 else 0)+(if d then 8 else 0):=by
 rcases hq with rfl | rfl | rfl<;>cases d<;>cases r<;>decide
theorem Qve (a:Qtc v p):Tot (fun N=>Xl N v p) (if Qew p then (Z07 p,0) else (0,7)):=by
 classical
 refine Ar ?_;unfold Xl;refine Au (v:=true) (.of fun N=>(Qek N v).trans (by rw [Ad a.1])) ?_;refine Aw (fun g=>nomatch g) (fun _=>?_);rw [a.2];refine Au (v:=true) (.of fun N=>by rcases a.1 with e | e<;>rw [e]<;>rfl) ?_;refine Aw (fun g=>nomatch g) (fun _=>?_);refine Aw (fun g=>nomatch g) (fun _=>?_);refine Aw (fun g=>nomatch g) (fun _=>?_);refine Aw (fun g=>nomatch g) (fun _=>?_);refine Aw (fun _=>?_) (fun g=>nomatch g);have no:¬ Qew p->TotP (fun _=>some ((0:Int),(7:Int))) (· = if Qew p then (Z07 p,0) else (0,7)):=fun x => .ret (by rw [Ae x]);rw [Qf,Qx,Q9];refine Aw (fun g=>no fun x=>by have:=Aa g;have:=x.1;omega) (fun g1=>?_);refine Aw (fun g=>no fun x=>by have:=Aa g;have:=x.1;omega) (fun g2=>?_);have g1:=Ac g1;have g2:=Ac g2
 have hq:p.QoS=0∨p.QoS=1∨p.QoS=2:=by omega
 have fe:=Z42 p.Dup p.Retain p.QoS hq;refine Aw (fun gd=>?_) (fun gd=>?_)
 ·refine Aw (fun g3=>no fun x=>by rw [x.2 (Aa g3)] at gd;cases gd) (fun g3=>?_);rw [Af (show Qew p from ⟨by omega,fun x=>absurd x (Ac g3)⟩)];unfold Z07;rw [← fe,gd];exact Aw (fun g => .ret (by rw [g];rfl)) (fun g => .ret (by rw [g];rfl))
 rw [Af (show Qew p from ⟨by omega,fun _=>gd⟩)];unfold Z07;rw [← fe,gd];exact Aw (fun g => .ret (by rw [g];rfl)) (fun g => .ret (by rw [g];rfl))
include h
theorem Qz0 (a:v=4∨v=5) (b:Qew p):TotP (fun N=>Q0x N v p) (fun c=>c=true↔Quo v p):=by
 have no:¬ Quo v p->TotP (fun _=>some false) (fun c=>c=true↔Quo v p):=fun x => .ret ⟨fun y=>(nomatch y),fun y=>absurd y x⟩;unfold Q0x;refine At (Q25 p (Z8d p) h.l) (fun c hc=>?_);refine Aw (fun g=>no fun x=>by rw [hc.2 x.1] at g;cases g) (fun g=>?_);have hu:=hc.1 (bP g)
 have tail:(v=4->p.Props = [])->TotP (fun _=>cond (Q4 .eql p.QoS 0) (some (Q4 .eql p.ID 0)) (cond (Q4 .gtr p.ID 0) (some (Q4 .lss p.ID 65536)) (some false))) (fun c=>c=true↔Quo v p):=fun hz=>by
  rw [Q9,Q9,Qx,Qf];refine Aw (fun g1 => .ret ?_) (fun g1=>?_)
  ·have g1:=Aa g1;exact ⟨fun y=>⟨hu,hz,fun _=>Aa y,fun x=>absurd g1 x⟩,fun x=>Ad (x.2.2.1 g1)⟩
  have g1:=Ac g1;refine Aw (fun g2 => .ret ?_) (fun g2=>no fun x=>by have:=Ac g2;have:=x.2.2.2 g1;omega);have g2:=Aa g2;exact ⟨fun y=>⟨hu,hz,fun x=>absurd x g1,fun _=>by have:=Aa y;omega⟩,fun x=>Ad (by have:=x.2.2.2 g1;omega)⟩
 refine Aw (fun g4=>?_) (fun g4=>?_)
 ·rw [Q9] at g4;have g4:=Aa g4;rw [Qx,Q3];refine Aw (fun g5=>no fun x=>by have:=Aa g5;rw [x.2.1 g4] at this;exact absurd this (by decide)) (fun g5=>?_);exact tail fun _=>Mh.1 (by have:=Ac g5;omega)
 rw [Q9] at g4;exact tail fun x=>absurd x (Ac g4)
theorem Z3p:TotP (fun N=>Q1s N v p) (fun c=>c=true↔Qt8 v p):=by
 unfold Q1s;refine At (V:=fun w=>w.2=Qgt p.Props 35) ?_ (fun w hw=>?_)
 ·unfold Q5r;exact At (Zve _ h.props.len 35) (fun w hw => .ret hw)
 refine Au (Qfg p.Topic (by have:=h.topic;have:=ml2;omega)) ?_;rw [Q9,Gz];refine Aw (fun g => .ret ⟨fun _ => .inl g,fun _=>rfl⟩) (fun g=>?_);have no:¬ Qt8 v p->TotP (fun _=>some false) (fun c=>c=true↔Qt8 v p):=fun x => .ret ⟨fun y=>(nomatch y),fun y=>absurd y x⟩;refine Aw (fun g5=>?_) (fun g5=>no fun x=>?_)
 ·refine Aw (fun g6 => .ret ?_) (fun g6=>no fun x=>?_)
  ·rw [hw] at g6;exact ⟨fun y => .inr ⟨Aa g5,g6,Aa y⟩,fun x=>x.elim (fun y=>by rw [y] at g;cases g) fun y=>Ad y.2.2⟩
  rw [hw] at g6
  rcases x with x | x
  ·rw [x] at g;cases g
  rw [x.2.1] at g6;cases g6
 rcases x with x | x
 ·rw [x] at g;cases g
 exact Ac g5 x.1
theorem Z9w:Tot (fun N=>Q36 N v p) (Qk5 v p):=by
 classical
 refine Ar ?_;unfold Q36;refine Au (v:=decide (v=4∨v=5)) (.of fun N=>Qek N v) ?_;refine Aw (fun g=>?_) (fun gv=>?_)
 ·have gv:=Ac (bN g);refine Au (v:=2) (.of fun _=>rfl) ?_;exact Aw (fun _ => .ret (Qnu fun x=>gv x.1).symm) (fun g=>nomatch g)
 have gv:=Aa (bP gv);refine Au (v:=if p.Kind=3 then 0 else 2) (.of fun N=>?_) ?_
 ·unfold Jh;rw [Qp]
  by_cases hk:p.Kind=3
  ·rw [Af hk,Ab (fun x=>x hk)];rfl
  rw [Ae hk,Ad hk];rfl
 by_cases hk:p.Kind=3
 rotate_left
 ·rw [Ae hk];exact Aw (fun _ => .ret (Qnu fun x=>hk x.2).symm) (fun g=>nomatch g)
 rw [Af hk];have a:Qtc v p:=⟨gv,hk⟩;refine Aw (fun g=>nomatch g) (fun _=>?_);refine Au (Qy2 a) ?_
 by_cases b:Qew p
 rotate_left
 ·rw [Ae b];exact Aw (fun _ => .ret (Qwv a b).symm) (fun g=>nomatch g)
 rw [Af b];refine Aw (fun g=>nomatch g) (fun _=>?_);refine At (Qz0 h gv b) (fun c hc=>?_)
 cases c with
 | false=>
  refine Au (v:=2) (.of fun _=>rfl) ?_;exact Aw (fun _ => .ret (Qv9 a b fun x=>by have:=hc.2 x;cases this).symm) (fun g=>nomatch g)
 | true=>
  have hc:=hc.1 rfl;refine Au (v:=0) (.of fun _=>rfl) ?_;refine Aw (fun g=>nomatch g) (fun _=>?_);refine At (Z3p h) (fun d hd=>?_)
  cases d with
  | false=>
   refine Au (v:=10) (.of fun _=>rfl) ?_;exact Aw (fun _ => .ret (Qxa a b hc fun x=>by have:=hd.2 x;cases this).symm) (fun g=>nomatch g)
  | true=>
   have hd:=hd.1 rfl;refine Au (v:=0) (.of fun _=>rfl) ?_;refine Aw (fun g=>nomatch g) (fun _=>?_);refine Au (Q9u h 3) ?_;rw [Qmp a b hc hd,Qp];exact Aw (fun _ => .ret rfl) (fun g => .ret (Decidable.byContradiction fun x=>Ac g fun y=>x y.symm))
end
end
end Go.Av
namespace Go.Av
noncomputable section
def Z59 (v:Int) (p:Q1):List UInt8:=Qhk p.Topic++((if p.QoS=0 then [] else Qbq p.ID.toNat 2)++(Qkx v 3 p.Props++p.Payload))
noncomputable def Z4h (v:Int) (p:Q1):List UInt8×Int:=if Qk5 v p=0 then (Z59 v p,0) else ([],Qk5 v p)
section
variable {v:Int} {p:Q1} (h:Qdi p)
include h
theorem Z6v (a:Qtc v p) (b:Qew p) (c:Quo v p):TotP (fun N=>(Z2 N p).bind fun v18=>(Qr N p.Topic).bind fun v20=>cond (!v20) (cond (Q1l .eql p.Topic []) (cond v18.2 (cond (!(Q4 .eql v 5)) (some (10:Int)) ((Q5 N v 3 p.Props).bind fun v26=>some v26)) (some 10)) (some 10)) ((Q5 N v 3 p.Props).bind fun v28=>some v28)) (· = Qk5 v p):=by
 have no:¬ Qt8 v p->TotP (fun _=>some (10:Int)) (· = Qk5 v p):=fun x => .ret (Qxa a b c x).symm
 have yes:Qt8 v p->TotP (fun N=>(Q5 N v 3 p.Props).bind fun v28=>some v28) (· = Qk5 v p):=fun x=>by
  rw [Qmp a b c x];exact Au (Q7c h c.2.1) (.ret rfl)
 refine At (V:=fun w=>w.2=Qgt p.Props 35) ?_ (fun w hw=>?_)
 ·unfold Z2;exact At (Qra _ h.props.len 35) (fun w hw => .ret hw)
 refine Au (Qfi p.Topic (by have:=h.topic;have:=ml2;omega)) ?_;rw [Q9,Gz];refine Aw (fun g=>?_) (fun g=>yes (.inl (bP g)));have g:=bN g;refine Aw (fun g1=>?_) (fun g1=>no fun x=>?_)
 ·refine Aw (fun g2=>?_) (fun g2=>no fun x=>?_)
  ·refine Aw (fun g3=>no fun x=>?_) (fun g3=>yes (.inr ⟨Aa (bP g3),by rw [← hw];exact g2,Aa g1⟩))
   rcases x with x | x
   ·rw [x] at g;cases g
   exact Ac (bN g3) x.1
  rcases x with x | x
  ·rw [x] at g;cases g
  rw [hw,x.2.1] at g2;cases g2
 rcases x with x | x
 ·rw [x] at g;cases g
 exact Ac g1 x.2.2
theorem Z64:Tot (fun N=>Vp N v p) (Qk5 v p):=by
 refine Ar ?_;unfold Vp;refine Au (.of fun N=>Qek N v) ?_;refine Aw (fun g => .ret (Qnu fun x=>Ac (bN g) x.1).symm) (fun gv=>?_);have gv:=Aa (bP gv);rw [Qp];refine Aw (fun g => .ret (Qnu fun x=>Aa g x.2).symm) (fun gk=>?_);have a:Qtc v p:=⟨gv,Decidable.byContradiction fun x=>Ac gk x⟩;refine Au (Qve a) ?_
 by_cases b:Qew p
 rotate_left
 ·rw [Ae b];exact Aw (fun _ => .ret (Qwv a b).symm) (fun g=>nomatch g)
 rw [Af b];refine Aw (fun g=>nomatch g) (fun _=>?_);have no:¬ Quo v p->TotP (fun _=>some (2:Int)) (· = Qk5 v p):=fun x => .ret (Qv9 a b x).symm;refine At (Jt p (Z8d p) h.l) (fun c hc=>?_);refine Aw (fun g=>no fun x=>by rw [hc.2 x.1] at g;cases g) (fun g=>?_);have hu:=hc.1 (bP g)
 have k4:((p.QoS=0->p.ID=0)∧(p.QoS≠0->1≤p.ID∧p.ID≤65535))->TotP (fun N=>cond (Q4 .eql v 4) (cond (Q4 .gtr ((Q7 Q6.cells p.Props).length:Int) 0) (some (2:Int)) ((Z2 N p).bind fun v18=>(Qr N p.Topic).bind fun v20=>cond (!v20) (cond (Q1l .eql p.Topic []) (cond v18.2 (cond (!(Q4 .eql v 5)) (some (10:Int)) ((Q5 N v 3 p.Props).bind fun v26=>some v26)) (some 10)) (some 10)) ((Q5 N v 3 p.Props).bind fun v28=>some v28)))
   ((Z2 N p).bind fun v18=>(Qr N p.Topic).bind fun v20=>cond (!v20) (cond (Q1l .eql p.Topic []) (cond v18.2 (cond (!(Q4 .eql v 5)) (some (10:Int)) ((Q5 N v 3 p.Props).bind fun v26=>some v26)) (some 10)) (some 10)) ((Q5 N v 3 p.Props).bind fun v28=>some v28))) (· = Qk5 v p):=fun hid=>by
  refine Aw (fun g4=>?_) (fun g4=>?_)
  ·rw [Q9] at g4;have g4:=Aa g4;rw [Qx,Q3];refine Aw (fun g5=>no fun x=>by have:=Aa g5;rw [x.2.1 g4] at this;exact absurd this (by decide)) (fun g5=>?_);have hz:p.Props = []:=Mh.1 (by have:=Ac g5;omega);exact Z6v h a b ⟨hu,fun _=>hz,hid.1,hid.2⟩
  rw [Q9] at g4;exact Z6v h a b ⟨hu,fun x=>absurd x (Ac g4),hid.1,hid.2⟩
 have hq:=b.1;refine Aw (fun g0=>?_) (fun g0=>?_)
 ·rw [Q9] at g0;have g0:=Aa g0;refine Aw (fun g1=>no fun x=>?_) (fun g1=>?_)
  ·rw [Qp] at g1;exact Aa g1 (x.2.2.1 g0)
  rw [Qp] at g1;have g1:p.ID=0:=Decidable.byContradiction fun x=>Ac g1 x;refine Aw (fun x=>?_) (fun _=>k4 ⟨fun _=>g1,fun x=>absurd g0 x⟩);rw [Qx] at x;exact absurd (Aa x) (by omega)
 rw [Q9] at g0;have g0:=Ac g0;refine Aw (fun _=>?_) (fun x=>?_)
 ·refine Aw (fun g1=>no fun x=>?_) (fun g1=>?_)
  ·rw [Qf] at g1;have:=Aa g1;have:=x.2.2.2 g0;omega
  refine Aw (fun g2=>no fun x=>?_) (fun g2=>?_)
  ·rw [Qx] at g2;have:=Aa g2;have:=x.2.2.2 g0;omega
  rw [Qf] at g1;rw [Qx] at g2;have g1:=Ac g1;have g2:=Ac g2;exact k4 ⟨fun x=>absurd x g0,fun _=>by omega⟩
 rw [Qx] at x;exact absurd (Ac x) (by omega)
theorem Qww (h0:Qk5 v p=0):Qtc v p∧Qew p∧Quo v p∧Qt8 v p∧Q83 3 [] p.Props=0:=by
 refine Mj fun x=>?_
 by_cases a:Qtc v p
 ·by_cases b:Qew p
  ·by_cases c:Quo v p
   ·by_cases d:Qt8 v p
    ·rw [Qmp a b c d] at h0;exact x ⟨a,b,c,d,h0⟩
    rw [Qxa a b c d] at h0;exact absurd h0 (by decide)
   rw [Qv9 a b c] at h0;exact absurd h0 (by decide)
  rw [Qwv a b] at h0;exact absurd h0 (by decide)
 rw [Qnu a] at h0;exact absurd h0 (by decide)
theorem Qrb (d:Qt8 v p):Vf p.Topic=true:=by
 rcases d with d | d
 ·unfold Q0u at d;simp only [La] at d;exact d.1.2
 rw [d.2.2];unfold Vf;rw [Qgo];simp
theorem Z6n (d:Qt8 v p):Tot (fun N=>Q04 N p.Topic) (Qhk p.Topic,0):=by
 refine Ar ?_;have ht:=Q9t p.Topic;rw [Qrb h d] at ht;have:=h.topic;unfold Q04;refine Au ht ?_;refine Aw (fun h=>nomatch h) (fun _=>?_);refine At (V:=(· = Qhk p.Topic)) ?_ (fun b hb => .ret (by rw [hb]));unfold Gd;exact Au (Q17 (p.Topic.length:Int) (by omega) 2 (by omega)) (Ax (by rw [Lm,Xr];omega) (.ret rfl))
theorem Z5k (d:Qt8 v p):Tot (fun N=>W1 N p.Topic) (Qhk p.Topic,0):=by
 refine Ar ?_;have ht:=Q4k p.Topic;rw [Qrb h d] at ht;have:=h.topic;unfold W1;refine Au ht ?_;refine Aw (fun h=>nomatch h) (fun _=>?_);exact Au (Q3f (p.Topic.length:Int) (by omega) 2 (by omega)) (Ax (by rw [Lm,Xr];omega) (.ret rfl))
theorem Z8w:Tot (fun N=>Q2v N v p) (Z4h v p):=by
 refine Ar ?_;unfold Q2v Z4h;refine Au (Z9w h) ?_;refine Aw (fun g => .ret (by rw [Qp] at g;rw [Ae (Aa g)])) (fun g=>?_);rw [Qp] at g;have h0:Qk5 v p=0:=Decidable.byContradiction fun x=>Ac g x;obtain ⟨a,b,c,d,e⟩:=Qww h h0;rw [Af h0];have l1:=h.topic;have l2:=h.payload;have b2:=Xr 2 p.ID.toNat;have d1:=V9 p.Topic;have t1:=Q56 h (v:=v) (k:=3) h.props;refine Au (Z6n h d) ?_
 have fin:∀ f:List UInt8,f.length≤10000->TotP (fun N=>cond (Q4 .eql v 5) ((V8 N p.Kind p.Props).bind fun v11=>cond (Nat.ble (f.length+v11.1.length) 4611686018427387904) (cond (Nat.ble ((f++v11.1).length+p.Payload.length) 4611686018427387904) (some (((f++v11.1)++p.Payload),(0:Int))) none) none) (cond (Nat.ble (f.length+p.Payload.length) 4611686018427387904) (some ((f++p.Payload),0)) none)) (· = (f++(Qkx v 3 p.Props++p.Payload),0)):=fun f hf=>by
  rw [Q9,a.2];have w1:=Qdl (k:=3) h.props.len;refine Aw (fun g=>?_) (fun g=>?_)
  ·have g:=Aa g;refine Au (Q9p _ h.props.len h.props.txt) ?_;refine Ax (by rw [Lm];omega) ?_;refine Ax (by rw [Lm,Lf];omega) (.ret ?_);unfold Qkx;rw [Ae (by omega),Lq]
  have g:=Ac g;refine Ax (by rw [Lm];omega) (.ret ?_);unfold Qkx;rw [Af (a.1.resolve_right g),Mx]
 unfold Z59;refine Aw (fun g=>?_) (fun g=>?_)
 ·rw [Qp] at g;have g:=Aa g;have hid:=c.2.2.2 g;rw [Ae g];refine Au (Q17 p.ID (by omega) 2 (by omega)) ?_;refine Ax (by rw [Lm];dsimp only;omega) ?_;refine (fin (Qhk p.Topic++Qbq p.ID.toNat 2) (by rw [Lf];omega)).mono fun w hw=>?_;rw [hw,Lq]
 rw [Qp] at g;have g:p.QoS=0:=Decidable.byContradiction fun x=>Ac g x;rw [Af g,Mx];exact fin (Qhk p.Topic) (by omega)
theorem Z82:Tot (fun N=>Gh N v p) (Z4h v p):=by
 refine Ar ?_;unfold Gh Z4h;refine Au (Z64 h) ?_;refine Aw (fun g => .ret (by rw [Qp] at g;rw [Ae (Aa g)])) (fun g=>?_);rw [Qp] at g;have h0:Qk5 v p=0:=Decidable.byContradiction fun x=>Ac g x;obtain ⟨a,b,c,d,e⟩:=Qww h h0;rw [Af h0];have l1:=h.topic;have l2:=h.payload;have b2:=Xr 2 p.ID.toNat;have d1:=V9 p.Topic;have t1:=Q56 h (v:=v) (k:=3) h.props;have tl:Tot (fun N=>Z0 N v 3 p.Props) (Qkx v 3 p.Props):=Qrn a.1 _ h.props.len h.props.txt;refine Au (Z5k h d) ?_;unfold Z59;rw [Qx];have hq:=b.1;refine Aw (fun g=>?_) (fun g=>?_)
 ·have g:=Aa g
  have g':p.QoS≠0:=by omega
  have hid:=c.2.2.2 g';rw [Ae g'];refine Au (Q3f p.ID (by omega) 2 (by omega)) ?_;refine Ax (by rw [Lm];dsimp only;omega) ?_;refine Au tl ?_;refine Ax (by rw [Lm,Lf];dsimp only;omega) ?_;refine Ax (by rw [Lm,Lf,Lf];dsimp only;omega) (.ret ?_);simp only [Lq]
 have g:=Ac g
 have g':p.QoS=0:=by omega
 rw [Af g',Mx];refine Au tl ?_;refine Ax (by rw [Lm];dsimp only;omega) ?_;refine Ax (by rw [Lm,Lf];dsimp only;omega) (.ret ?_);simp only [Lq]
end
end
end Go.Av
namespace Go.Av
noncomputable section
def Wr:List UInt8->List (List UInt8)
 | [] => [[]]
 | c::s=>if c == 47 then []::Wr s else match Wr s with
  | [] => [[c]]
  | a::r=>(c::a)::r
theorem Q28:∀ s:List UInt8,∃ a r,Wr s=a::r
 | []=>⟨[],[],rfl⟩
 | c::s=>by
  obtain ⟨a,r,e⟩:=Q28 s;unfold Wr;rw [e];split
  ·exact ⟨_,_,rfl⟩
  exact ⟨_,_,rfl⟩
theorem Qec (s:List UInt8):Wr (47::s) = []::Wr s:=rfl
theorem Q9q {c:UInt8} (h:(c == 47)=false) {s a:List UInt8} {r:List (List UInt8)} (e:Wr s=a::r):Wr (c::s)=(c::a)::r:=by
 show (if (c == 47)=true then []::Wr s else match Wr s with | [] => [[c]] | a::r=>(c::a)::r)=_;rw [Ae (by rw [h];decide),e]
theorem Qi8:∀ (l:List UInt8) (c:UInt8) (n:Nat),Qbl l c n=n+Qbl l c 0
 | [],_,n=>rfl
 | b::l,c,n=>by
  have e:∀ m,Qbl (b::l) c m=if (b == c)=true then Qbl l c (m+1) else Qbl l c m:=fun m=>rfl;rw [e n,e 0];split
  ·rw [Qi8 l c (n+1),Qi8 l c (0+1)];omega
  rw [Qi8 l c n]
theorem Qgl:∀ s:List UInt8,(Wr s).length=Qbl s 47 0+1
 | []=>rfl
 | c::s=>by
  have ih:=Qgl s;have e:Qbl (c::s) 47 0=if (c == 47)=true then Qbl s 47 (0+1) else Qbl s 47 0:=rfl;rw [e]
  cases h:(c == 47) with
  | true=>
   rw [Af rfl,Qi8,eq_of_beq h,Qec,Li,ih];omega
  | false=>
   rw [Ae (by decide)];obtain ⟨a,r,e⟩:=Q28 s;rw [Q9q h e,Li];rw [e,Li] at ih;exact ih
theorem Qcf:∀ (t:List UInt8) (i k:Nat),Qea t 47 i=((i+k:Nat):Int)->Wr t=t.take k::Wr (t.drop (k+1))∧k<t.length∧t=t.take k++47::t.drop (k+1)
 | [],i,k,h=>absurd (show (-1:Int)=_ from h) (by omega)
 | c::t,i,k,h=>by
  have e:Qea (c::t) 47 i=if (c == 47)=true then (i:Int) else Qea t 47 (i+1):=rfl;rw [e] at h
  cases hc:(c == 47) with
  | true=>
   rw [hc,Af rfl] at h
   obtain rfl:k=0:=by omega
   rw [eq_of_beq hc];exact ⟨rfl,by simp,rfl⟩
  | false=>
   rw [hc,Ae (by decide)] at h
   rcases Qgy t 47 (i+1) with h1 | ⟨j,h1,h2,_⟩
   ·rw [h1] at h;omega
   obtain ⟨m,rfl⟩:∃ m,k=m+1:=⟨k - 1,by omega⟩;obtain ⟨i1,i2,i3⟩:=Qcf t (i+1) m (by rw [h];omega);refine ⟨?_,by simp only [Li];omega,?_⟩
   ·rw [Q9q hc i1];rfl
   show c::t=c::(t.take m++47::t.drop (m+1));rw [← i3]
theorem Qct:∀ (t:List UInt8) (i:Nat),Qea t 47 i = -1->Wr t = [t]
 | [],_,_=>rfl
 | c::t,i,h=>by
  have e:Qea (c::t) 47 i=if (c == 47)=true then (i:Int) else Qea t 47 (i+1):=rfl;rw [e] at h
  cases hc:(c == 47) with
  | true=>rw [hc,Af rfl] at h;omega
  | false=>
   rw [hc,Ae (by decide)] at h;exact Q9q hc (Qct t (i+1) h)
theorem Qlb:∀ (s:List UInt8),∀ x∈Wr s,x.length≤s.length
 | [],x,hx=>by
  have:x = []:=by simpa [Wr] using hx
  rw [this];exact Lj _
 | c::s,x,hx=>by
  have ih:=Qlb s
  cases hc:(c == 47) with
  | true=>
   rw [eq_of_beq hc,Qec] at hx
   rcases Ml.1 hx with rfl | hx
   ·exact Ln _
   exact Na (ih x hx) (by simp)
  | false=>
   obtain ⟨a,r,e⟩:=Q28 s;rw [Q9q hc e] at hx;rw [e] at ih
   rcases Ml.1 hx with rfl | hx
   ·have:=ih a Bn;simp only [Li];omega
   have:=ih x (Bi _ hx);simp only [Li];omega
def Z9o (s:List UInt8) (c:Nat) (p:List UInt8×Int×List (List UInt8)):Prop:=∃ i:Nat,p.2.1=(i:Int)∧i≤c∧p.2.2.length=c+1∧p.2.2.take i++Wr p.1=Wr s∧p.1.length≤s.length
theorem Z3s (s:List UInt8) (hs:s.length≤70000):Tot (fun N=>Q46 N s) (Wr s):=by
 refine Ar ?_;unfold Q46;refine Aw (fun h=>by rw [Gz] at h;exact absurd (Aa h) (by simp)) (fun _=>?_);have h47:UInt8.ofNat (Int.toNat 47)=47:=rfl;rw [h47];obtain ⟨c,hcd⟩:∃ c,Qbl s 47 0=c:=⟨_,rfl⟩;have hc:=Qnf s 47 0;have hsl:=Qgl s;rw [hcd] at hc hsl ⊢;have e1:wrap .i64 ((s.length:Int)+1)=(s.length:Int)+1:=w64 _ (by omega);have e2:wrap .i64 ((c:Int)+1)=(c:Int)+1:=w64 _ (by omega)
 have hn:(ifB (decide (wrap .i64 ((s.length:Int)+1)<wrap .i64 ((c:Int)+1))) (wrap .i64 ((s.length:Int)+1)) (wrap .i64 ((c:Int)+1)))=((c+1:Nat):Int):=by
  rw [e1,e2,Ab (by omega)];show (c:Int)+1=_;omega
 have hm:wrap .i64 (((c+1:Nat):Int) - 1)=(c:Int):=by rw [w64 _ (by omega)];omega
 rw [hn];refine Ax (by simp only [La,Ag];omega) ?_;refine Qbi (L:=Z7p s) (Q:=(· = Wr s)) (Z9o s c) (fun p=>c - p.2.1.toNat) ?_ (s,0,List.replicate (((c+1:Nat):Int).toNat) []) ⟨0,rfl,by omega,by simp,rfl,Lj _⟩
 rintro ⟨t,j,l⟩ ⟨i,hi,hic,hl,hx,ht⟩
 simp only at ht hi hl hx
 subst hi
 have ei:wrap .i64 ((i:Int)+1)=((i+1:Nat):Int):=by rw [w64 _ (by omega)];omega
 have hlen:i+(Wr t).length=c+1:=by
  have:=congrArg List.length hx;rw [Lf,Mk,hsl] at this;omega
 have fin:Wr t = [t]->Stp (Z7p s) (fun p=>Z9o s c p∧c - p.2.1.toNat<c - (i:Int).toNat) (· = Wr s)
   (fun (_:Nat) (_:Nat)=>(idx (l:List (List UInt8)) (i:Int)).bind fun _=>cond (decide (0≤(wrap .i64 ((i:Int)+1)))) (cond (Nat.ble 0 ((wrap .i64 ((i:Int)+1)).toNat)&&Nat.ble ((wrap .i64 ((i:Int)+1)).toNat) l.length) (some ((((l:List (List UInt8)).set (Int.toNat (i:Int)) t):List (List UInt8)).take ((wrap .i64 ((i:Int)+1)).toNat))) none) none):=fun e=>by
  rw [ei];refine AD (Z3 (show i<l.length by omega)) ?_;refine AF (by rw [Ag];omega) ?_;refine AF (by simp only [La,Lm,Lt];omega) ?_;refine AA ?_;rw [← hx,e,Lt,Lt,Bs,List.take_set,Ls (by omega),Cg (by rw [Mk];omega)];rfl
 show Stp _ _ _ (fun N n=>cond (Q4 .lss (i:Int) (wrap .i64 ((ifB (decide (wrap .i64 ((s.length:Int)+1)<wrap .i64 ((Qbl s (UInt8.ofNat (Int.toNat 47)) 0:Int)+1))) (wrap .i64 ((s.length:Int)+1)) (wrap .i64 ((Qbl s (UInt8.ofNat (Int.toNat 47)) 0:Int)+1))) - 1))) _ _);rw [h47,hcd,hn,hm,Qf];refine AE (fun h=>?_) (fun h=>?_)
 rotate_left
 ·have h:=Ac h;refine fin ?_
  rcases Qgy t 47 0 with h3 | ⟨k,h3,_,h4⟩
  ·exact Qct t 0 h3
  have:=(Qcf t 0 k (by rw [h3];omega)).1;obtain ⟨a,r,e⟩:=Q28 (t.drop (k+1));rw [e] at this;have:=congrArg List.length this;simp only [Li] at this;omega
 have h:=Aa h
 have go:∀ (t' y:List UInt8),Wr t=y::Wr t'->t'.length≤t.length->Stp (Z7p s) (fun p=>Z9o s c p∧c - p.2.1.toNat<c - (i:Int).toNat) (· = Wr s) (fun N n=>Vt N s n t' (wrap .i64 ((i:Int)+1)) (l.set (Int.toNat (i:Int)) y)):=fun t' y h1 h2=>by
  rw [ei];refine AB (L:=Z7p s) (t',((i+1:Nat):Int),l.set (Int.toNat (i:Int)) y) ⟨⟨i+1,rfl,by omega,by rw [Bf];exact hl,?_,Na h2 ht⟩,by simp only [Lt];omega⟩;show (l.set (Int.toNat (i:Int)) y).take (i+1)++Wr t'=_;rw [← hx,h1,Lt,Bs,List.take_set,Ls (by omega),Cg (by rw [Mk];omega),Lq];rfl
 refine AE (fun h2=>?_) (fun _=>?_)
 ·rw [Gz] at h2;have h2:=Aa h2;refine AD (Z3 (show i<l.length by omega)) ?_;refine AF (by rw [← h2];rfl) ?_;refine go _ _ ?_ (by simp only [Ng,Mk];omega);subst h2;rfl
 refine AC (f:=fun N=>Zk N t 47) (V:=fun v=>v=Qea t 47 0) ⟨_,rfl,.of fun _=>rfl⟩ (fun v hv=>?_);rw [Qf]
 rcases Qgy t 47 0 with h3 | ⟨k,h3,_,h4⟩
 ·rw [hv,h3];exact AE (fun _=>fin (Qct t 0 h3)) (fun h=>nomatch h)
 rw [hv,h3,Ab (by omega)];have hk:=Qcf t 0 k (by rw [h3];omega)
 have k0:wrap .i64 ((k:Int)+0)=(k:Int):=by rw [w64 _ (by omega)];omega
 have k1:wrap .i64 ((k:Int)+1)=((k+1:Nat):Int):=by rw [w64 _ (by omega)];omega
 refine AE (fun h=>nomatch h) (fun _=>?_);rw [k0,k1];refine AF (by rw [Ag];omega) ?_;refine AF (by simp only [La,Lm,Lt];omega) ?_;refine AD (Z3 (show i<l.length by omega)) ?_;refine AF (by rw [Ag];omega) ?_;refine AF (by simp only [La,Lm,Lt];omega) ?_;refine go _ _ ?_ (by simp only [Ng,Mk];omega);rw [hk.1,Lt,Lt,Ms (Lj t.length)];rfl
def Z7w (a:List UInt8):List (List UInt8)->List (List UInt8)
 | [] => [a]
 | x::r=>(a++x)::r
theorem Qxj (s:List UInt8) (hs:s.length≤70000):Tot (fun N=>Ve N s) (Wr s):=by
 refine Ar ?_;unfold Ve
 refine Qbi (L:=fun N n (q:Int×Int×List (List UInt8))=>Zt N s n q.1 q.2.1 q.2.2) (Q:=(· = Wr s)) (fun q=>∃ f i:Nat,q.1=(f:Int)∧q.2.1=(i:Int)∧f≤i∧i≤s.length∧q.2.2.length≤i∧q.2.2++Z7w ((s.take i).drop f) (Wr (s.drop i))=Wr s) (fun q=>s.length - q.2.1.toNat) ?_ (0,0,[]) ⟨0,0,rfl,rfl,Lj _,Ln _,Ln _,by
  obtain ⟨a,r,e⟩:=Q28 s;show Z7w [] (Wr s)=Wr s
  rw [e];rfl⟩
 rintro ⟨f',i',l⟩ ⟨f,i,h1,h2,hf,hi,hll,hx⟩
 simp only at h1 h2 hll hx
 subst h1;subst h2;show Stp _ _ _ (fun N n=>cond (Q4 .lss (i:Int) (s.length:Int)) _ _);rw [Qf];refine AE (fun g=>?_) (fun g=>?_)
 ·have g:i<s.length:=by have:=Aa g;omega
  have ei:wrap .i64 ((i:Int)+1)=((i+1:Nat):Int):=by rw [w64 _ (by omega)];omega
  have hd:s.drop i=s[i]::s.drop (i+1):=Mp g
  have hti:(s.take (i+1)).drop f=(s.take i).drop f ++ [s[i]]:=by
   rw [Bs,Ld g,Bp (by rw [Mk];omega)];rfl
  refine AD (Z3 g) ?_;dsimp only;rw [Q9,ei];refine AE (fun h=>?_) (fun h=>?_)
  ·have h:s[i].toNat=47:=by have:=Aa h;omega
   have hb:s[i]=47:=Dh.1 h;refine AF (Ad (by omega)) ?_;refine AF (Ad (by omega)) ?_;rw [Lt,Lt];refine AF (by rw [La,Lm,Lm];omega) ?_;refine AF (by rw [Lm];omega) ?_;refine AB (L:=fun N n (q:Int×Int×List (List UInt8))=>Zt N s n q.1 q.2.1 q.2.2) (_,_,_) ⟨⟨i+1,i+1,rfl,rfl,Lj _,by omega,by simp only [Lf,Lx];omega,?_⟩,by simp only [Lt];omega⟩;rw [hd,hb,Qec] at hx;have e0:(s.take (i+1)).drop (i+1) = []:=Ci (by rw [Mk];omega);obtain ⟨a,r,e⟩:=Q28 (s.drop (i+1));show (l ++ [(s.take i).drop f])++Z7w ((s.take (i+1)).drop (i+1)) (Wr (s.drop (i+1)))=_;rw [← hx,e0,e,Lq];show l++((s.take i).drop f::(a::r))=l++(((s.take i).drop f ++ [])::(a::r));rw [Lu]
  have h:¬ s[i].toNat=47:=by have:=Ac h;omega
  have hb:(s[i] == 47)=false:=by
   cases hq:(s[i] == 47) with
   | false=>rfl
   | true=>exact absurd (by rw [eq_of_beq hq];rfl) h
  refine AB (L:=fun N n (q:Int×Int×List (List UInt8))=>Zt N s n q.1 q.2.1 q.2.2) (_,_,_) ⟨⟨f,i+1,rfl,rfl,by omega,by omega,by simp only;omega,?_⟩,by simp only [Lt];omega⟩;obtain ⟨a,r,e⟩:=Q28 (s.drop (i+1));rw [hd,Q9q hb e] at hx;show l++Z7w ((s.take (i+1)).drop f) (Wr (s.drop (i+1)))=_;rw [← hx,e,hti];show l++((((s.take i).drop f ++ [s[i]])++a)::r)=l++(((s.take i).drop f++(s[i]::a))::r);rw [Lq];rfl
 have g:i=s.length:=by have:=Ac g;omega
 subst g;dsimp only;refine AF (Ad (by omega)) ?_;rw [Lt];refine AF (by rw [La,Lm,Lm];omega) ?_;refine AF (by rw [Lm];omega) (AA ?_);rw [← hx,Lz (Lj _)];show _=l ++ [(s.take s.length).drop f ++ []];rw [Lu,Lt]
end
end Go.Av
namespace Go.Av
noncomputable section
theorem Qsv {s:List UInt8} {p:Nat} (hl:p<s.length) (h:Qgo s p=none):¬ ((Q76 s p).1=0∨Qpm s p)∧Qgo s (p+(Q76 s p).2)=none:=by
 rw [Qgo,dif_pos hl] at h
 by_cases c:(Q76 s p).1=0∨Qpm s p
 ·rw [Af c] at h;cases h
 rw [Ae c] at h;exact ⟨c,h⟩
theorem Qwf {s g:List UInt8} {p:Nat} (hA:∀ j,j<g.length->at8 s (p+j)=at8 g j) (hL:p+g.length<s.length) (hE:at8 s (p+g.length)<128) {i:Nat} (hi:i<g.length):Q76 s (p+i)=Q76 g i:=by
 have hG:∀ j,j<g.length->(goes s (p+j)↔goes g j):=fun j hj=>by
  unfold goes;rw [hA j hj];exact ⟨fun x=>⟨hj,x.2⟩,fun x=>⟨by omega,x.2⟩⟩
 have hS:¬ goes s (p+g.length):=fun x=>by have:=x.2.1;omega
 have hN:∀ j,g.length≤j->¬ goes g j:=fun j hj x=>by have:=x.1;omega
 have a0:=hA i hi
 by_cases d1:i+1<g.length
 ·have a1:=hA (i+1) d1;have g1:=hG (i+1) d1
  by_cases d2:i+2<g.length
  ·have a2:=hA (i+2) d2;have g2:=hG (i+2) d2
   by_cases d3:i+3<g.length
   ·have a3:=hA (i+3) d3;have g3:=hG (i+3) d3;unfold Q76;simp only [Nc,a0,a1,a2,a3,g1,g2,g3]
   have e:p+(i+3)=p+g.length:=by omega
   have n3:=hN (i+3) (by omega)
   have s3:¬ goes s (p+(i+3)):=by rw [e];exact hS
   unfold Q76;simp only [Nc,a0,a1,a2,g1,g2,n3,s3,false_and,and_false,Al]
  have e:p+(i+2)=p+g.length:=by omega
  have n2:=hN (i+2) (by omega)
  have s2:¬ goes s (p+(i+2)):=by rw [e];exact hS
  unfold Q76;simp only [Nc,a0,a1,g1,n2,s2,false_and,and_false,Al]
 have e:p+(i+1)=p+g.length:=by omega
 have n1:=hN (i+1) (by omega)
 have s1:¬ goes s (p+(i+1)):=by rw [e];exact hS
 unfold Q76;simp only [Nc,a0,n1,s1,false_and,and_false,Al]
theorem Qsh {s g:List UInt8} {p:Nat} (hA:∀ j,j<g.length->at8 s (p+j)=at8 g j) (hL:p+g.length<s.length) (hE:at8 s (p+g.length)<128):∀ (m i:Nat),g.length - i=m->i≤g.length->Qgo s (p+i)=none->Qgo g i=none
 | m,i,hm,hi,hb=>by
  by_cases h:i<g.length
  ·have e:=Qwf hA hL hE h;obtain ⟨c,hb2⟩:=Qsv (show p+i<s.length by omega) hb;rw [e] at c hb2;have hw:=Qiq g i h;have c2:¬ ((Q76 g i).1=0∨Qpm g i):=fun x=>c (x.elim .inl fun y => .inr (by unfold Qpm at y ⊢;rw [e];exact y));rw [Qgo,dif_pos h,Ae c2];exact Qsh hA hL hE (g.length - (i+(Q76 g i).2)) (i+(Q76 g i).2) rfl hw.2.1 (by rw [← Nc];exact hb2)
  rw [Qgo,dif_neg h]
termination_by m=>m
decreasing_by have:=(Qiq g i h).1;omega
theorem Qob {s:List UInt8}:∀ (n p:Nat),p+n≤s.length->(∀ j,j<n->at8 s (p+j)<128)->Qgo s p=none->Qgo s (p+n)=none
 | 0,p,_,_,h=>h
 | n+1,p,hl,ha,h=>by
  have h0:at8 s p<128:=ha 0 (by omega);obtain ⟨_,hb⟩:=Qsv (show p<s.length by omega) h;have hw:=((Qiq s p (by omega)).2.2.2.1 h0).2;rw [hw] at hb;have:=Qob n (p+1) (by omega) (fun j hj=>by have:=ha (j+1) (by omega);rwa [show p+1+j=p+(j+1) by omega]) hb
  rwa [show p+(n+1)=p+1+n by omega]
theorem Qpr (a b:List UInt8) (j:Nat):at8 (a++b) (a.length+j)=at8 b j:=by
 unfold at8;rw [Lg,Lg,Ly (by omega),Dg]
theorem Qxz (a b:List UInt8) (j:Nat) (h:j<a.length):at8 (a++b) j=at8 a j:=by
 unfold at8;rw [Lg,Lg,Lr h]
def shaP:List UInt8 := [36,115,104,97,114,101,47]
theorem Qu0 {g b:List UInt8} (h:Vf (shaP++(g++47::b))=true):Vf g=true:=by
 have hl:=Z8i h;unfold Vf at h ⊢;simp only [La,Ag,Option.isNone_iff_eq_none] at h ⊢;refine ⟨by simp only [Lf,Li] at hl;omega,?_⟩
 have h7:Qgo (shaP++(g++47::b)) 7=none:=by
  have:=Qob (s:=shaP++(g++47::b)) 7 0 (by simp [shaP]) (fun j hj=>by
   rw [Mq,Qxz _ _ _ (by simp [shaP];omega)]
   have:∀ j:Fin 7,at8 shaP j.val<128:=by decide
   exact this ⟨j,hj⟩) h.2
  exact this
 refine Qsh (s:=shaP++(g++47::b)) (g:=g) (p:=7) (fun j hj=>?_) ?_ ?_ g.length 0 (by omega) (Ln _) h7
 ·rw [show 7=shaP.length from rfl,Qpr,Qxz _ _ _ hj]
 ·simp [shaP];omega
 rw [show 7=shaP.length from rfl,Qpr];have:=Qpr g (47::b) 0;rw [Nt] at this;rw [this];show ((47:UInt8)).toNat<128
 decide
end
end Go.Av
namespace Go.Av
noncomputable section
def Qlq (x:List UInt8) (e:Bool):Bool:=if x = [43] then true else if x = [35] then e else !(Qs5 x)
def Qk8:List (List UInt8)->Bool
 | []=>true
 | x::r=>Qlq x r.isEmpty&&Qk8 r
theorem Z16 {l:List (List UInt8)} {i:Nat} (hi:i<l.length):Qk8 (l.drop i)=(Qlq l[i] (decide (i+1=l.length))&&Qk8 (l.drop (i+1))):=by
 rw [Mp hi];show (Qlq l[i] (l.drop (i+1)).isEmpty&&Qk8 (l.drop (i+1)))=_
 congr 2
 rw [Ce,List.isEmpty_iff,Ag,List.drop_eq_nil_iff];omega
def Qgu (s:List UInt8):Bool:=decide (s ≠ [])&&Vf s&&Qk8 (Wr s)
theorem Z7b (N:Nat) (x:List UInt8):Q4u N x=some (decide (x = [43])||decide (x = [35])):=by
 unfold Q4u;rw [Gz,Gz];cases decide (x = [43])<;>rfl
theorem Z8r (l:List (List UInt8)) (h1:l.length≤70001) (h2:∀ x∈l,x.length≤70000):Tot (fun N=>Q44 N l) (Qk8 l):=by
 refine Ar ?_;have hm:=ml7;unfold Q44;refine Q70 (L:=fun N n i=>Ye N l n i) l.length (fun i=>Qk8 (l.drop i)=Qk8 l) (fun i hi hJ=>?_) (fun hJ=>?_) rfl
 ·have hla:=Z16 hi;rw [hJ] at hla;have hx:=h2 _ (Md hi);show Stp _ _ _ (fun N n=>cond (Q4 .lss (i:Int) ((Q7 cS l).length:Int)) _ _);rw [Q3,Qf];refine AE (fun _=>?_) (fun h=>by have:=Ac h;omega);refine AD (Z3 hi) ?_
  have ei:wrap .i64 ((i:Int)+1)=((i+1:Nat):Int):=by rw [w64 _ (by omega)];omega
  have go:Qlq l[i] (decide (i+1=l.length))=true->Stp (fun N n i=>Ye N l n i) (fun s=>s=((i+1:Nat):Int)∧Qk8 (l.drop (i+1))=Qk8 l) (· = Qk8 l) (fun N n=>Ye N l n (wrap .i64 ((i:Int)+1))):=fun e=>by
   rw [ei];exact AB (L:=fun N n i=>Ye N l n i) _ ⟨rfl,by rw [hla,e];rfl⟩
  have no:Qlq l[i] (decide (i+1=l.length))=false->Stp (fun N n i=>Ye N l n i) (fun s=>s=((i+1:Nat):Int)∧Qk8 (l.drop (i+1))=Qk8 l) (· = Qk8 l) (fun _ _=>some false):=fun e=>AA (by rw [hla,e];rfl);have hc:Tot (fun N=>X9 N l[i]) (Qs5 l[i]):=Qha _ (by omega);rw [Gz];refine AE (fun g=>?_) (fun g=>?_)
  ·have g:=Aa g
   have x1:l[i] ≠ [43]:=by rw [g];decide
   have hX:Qlq l[i] (decide (i+1=l.length))=decide (i+1=l.length):=by unfold Qlq;rw [Ae x1,Af g]
   rw [ei,Q9];refine AE (fun g1=>no ?_) (fun g1=>?_)
   ·rw [hX];exact Ab (by have:=Ac (bN g1);omega)
   have hX2:Qlq l[i] (decide (i+1=l.length))=true:=by rw [hX];exact Ad (by have:=Aa (bP g1);omega)
   refine AC (V:=(· = true)) ⟨_,rfl,.of fun N=>by rw [Z7b,g];rfl⟩ (fun w hw=>?_);subst hw;refine AE (fun h=>nomatch h) (fun _=>?_);have:=go hX2
   rwa [ei] at this
  have g:=Ac g;refine AC (V:=(· = decide (l[i] = [43]))) ⟨_,rfl,.of fun N=>by rw [Z7b,Ab g,Dl]⟩ (fun w hw=>?_);subst hw;refine AE (fun g1=>?_) (fun g1=>go ?_)
  ·have g1:=Ac (bN g1)
   have hX:Qlq l[i] (decide (i+1=l.length)) = !(Qs5 l[i]):=by unfold Qlq;rw [Ae g1,Ae g]
   refine AC (V:=(· = Qs5 l[i])) ⟨_,rfl,hc⟩ (fun w hw=>?_);subst hw;exact AE (fun g2=>no (by rw [hX,g2];rfl)) (fun g2=>go (by rw [hX,g2];rfl))
  unfold Qlq;rw [Af (Aa (bP g1))]
 show Stp _ _ _ (fun N n=>cond (Q4 .lss (l.length:Int) ((Q7 cS l).length:Int)) _ _);rw [Q3,Qf,Ab (by omega)];refine AA ?_;rw [← hJ,Lz (Lj _)];rfl
theorem Qjj {s:List UInt8} (hs:s.length≤70000):(Wr s).length≤70001∧∀ x∈Wr s,x.length≤70000:=by
 have:=Qnf s 47 0;exact ⟨by rw [Qgl];omega,fun x hx=>Na (Qlb s x hx) hs⟩
theorem Qvp (s:List UInt8) (hs:s.length≤70000):Tot (fun N=>Q05 N s) (Qgu s):=by
 refine Ar ?_;have hb:=Qjj hs;unfold Q05 Qgu;refine Au (Qs3 s) ?_;refine Aw (fun g=>?_) (fun g => .ret (by rw [g];rfl));rw [g];refine Au (Z3s s hs) ?_;exact Au (Z8r _ hb.1 hb.2) (.ret rfl)
theorem Qvx (s:List UInt8) (hs:s.length≤70000):Tot (fun N=>Yl N s) (Qgu s):=by
 refine Ar ?_;have hb:=Qjj hs;have hm:=ml7;unfold Yl Qgu;rw [Gz];refine Aw (fun g => .ret (by rw [Ab (fun x=>x (Aa g))];rfl)) (fun g=>?_);rw [Ad (Ac g),Cy];refine Au (Q4k s) ?_;refine Aw (fun g => .ret (by rw [bN g];rfl)) (fun g=>?_);rw [bP g,Cy];refine Au (Qxj s hs) ?_;generalize Wr s=l at hb;obtain ⟨h1,h2⟩:=hb;refine Q70 (L:=fun N n i=>Qs N l n i) l.length (fun i=>Qk8 (l.drop i)=Qk8 l) (fun i hi hJ=>?_) (fun hJ=>?_) rfl
 ·have hla:=Z16 hi;rw [hJ] at hla;have hx:=h2 _ (Md hi);show Stp _ _ _ (fun N n=>cond (Q4 .lss (i:Int) ((Q7 cS l).length:Int)) _ _);rw [Q3,Qf];refine AE (fun _=>?_) (fun h=>by have:=Ac h;omega)
  have ei:wrap .i64 ((i:Int)+1)=((i+1:Nat):Int):=by rw [w64 _ (by omega)];omega
  have go:Qlq l[i] (decide (i+1=l.length))=true->Stp (fun N n i=>Qs N l n i) (fun s=>s=((i+1:Nat):Int)∧Qk8 (l.drop (i+1))=Qk8 l) (· = Qk8 l) (fun N n=>Qs N l n (wrap .i64 ((i:Int)+1))):=fun e=>by
   rw [ei];exact AB (L:=fun N n i=>Qs N l n i) _ ⟨rfl,by rw [hla,e];rfl⟩
  have no:Qlq l[i] (decide (i+1=l.length))=false->Stp (fun N n i=>Qs N l n i) (fun s=>s=((i+1:Nat):Int)∧Qk8 (l.drop (i+1))=Qk8 l) (· = Qk8 l) (fun _ _=>some false):=fun e=>AA (by rw [hla,e];rfl);have a43:Tot (fun N=>Y7 N l[i] 43) (l[i].any fun b=>b.toNat == 43):=Qgh _ (by omega) 43;have a35:Tot (fun N=>Y7 N l[i] 35) (l[i].any fun b=>b.toNat == 35):=Qgh _ (by omega) 35;have hh:=Qr3 l[i];refine AD (Z3 hi) ?_;refine AC (V:=(· = l[i].any fun b=>b.toNat == 43)) ⟨_,rfl,a43⟩ (fun w hw=>?_);subst hw;refine AE (fun g43=>?_) (fun g43=>?_)
  ·refine AD (Z3 hi) ?_;rw [Q8t];refine AE (fun g=>no ?_) (fun g=>?_)
   ·have g:=Aa g
    by_cases h35:l[i] = [35]
    ·rw [h35] at g43;exact absurd g43 (by decide)
    unfold Qlq;rw [Ae g,Ae h35,hh,g43];rfl
   have g:l[i] = [43]:=Decidable.byContradiction fun x=>Ac g x
   have hX:Qlq l[i] (decide (i+1=l.length))=true:=by unfold Qlq;rw [Af g]
   refine AD (Z3 hi) ?_;refine AC (V:=(· = false)) ⟨_,by rw [g];decide,a35⟩ (fun w hw=>?_);subst hw;exact AE (fun h=>nomatch h) (fun _=>go hX)
  have n43:l[i] ≠ [43]:=fun x=>by rw [x] at g43;exact absurd g43 (by decide)
  refine AD (Z3 hi) ?_;refine AC (V:=(· = l[i].any fun b=>b.toNat == 35)) ⟨_,rfl,a35⟩ (fun w hw=>?_);subst hw;refine AE (fun g35=>?_) (fun g35=>go ?_)
  ·refine AD (Z3 hi) ?_;rw [Q8t];refine AE (fun g=>no ?_) (fun g=>?_)
   ·have g:=Aa g;unfold Qlq;rw [Ae n43,Ae g,hh,g35,Bool.or_true];rfl
   have g:l[i] = [35]:=Decidable.byContradiction fun x=>Ac g x
   have hX:Qlq l[i] (decide (i+1=l.length))=decide (i+1=l.length):=by unfold Qlq;rw [Ae n43,Af g]
   rw [ei,Qf];refine AE (fun g1=>no ?_) (fun g1=>?_)
   ·rw [hX];exact Ab (by have:=Aa g1;omega)
   have:=go (by rw [hX];exact Ad (by have:=Ac g1;omega))
   rwa [ei] at this
  have n35:l[i] ≠ [35]:=fun x=>by rw [x] at g35;exact absurd g35 (by decide)
  unfold Qlq;rw [Ae n43,Ae n35,hh,g43,g35];rfl
 show Stp _ _ _ (fun N n=>cond (Q4 .lss (l.length:Int) ((Q7 cS l).length:Int)) _ _);rw [Q3,Qf,Ab (by omega)];refine AA ?_;rw [← hJ,Lz (Lj _)];rfl
end
end Go.Av
namespace Go.Av
noncomputable section
def Qud (s:List UInt8):Prop:=Vf s=true∧∃ t,s=shaP++t∧∃ k:Nat,Qea t 47 0=(k:Int)∧Q0u (t.take k)=true∧Qgu (t.drop (k+1))=true
theorem Qzf {t t':List UInt8} (h:shaP++t=shaP++t'):t=t':=List.append_cancel_left h
theorem Qs0 {s:List UInt8} (h:s.take 7=shaP):s=shaP++s.drop 7:=by
 conv=>lhs;rw [← Nm 7 s,h]
theorem Zv6 (s:List UInt8):TotP (fun N=>Q0c N s [36,115,104,97,114,101,47]) (fun r=>(r.2=true∧s=shaP++r.1)∨(r.2=false∧(∀ t,s≠shaP++t)∧r.1=s)):=by
 unfold Q0c Wh;refine At (V:=fun r=>(r.2=true∧s=shaP++r.1)∨(r.2=false∧(∀ t,s≠shaP++t)∧r.1=s)) ?_ (fun w hw => .ret hw);refine At (V:=fun b=>b=true↔∃ t,s=shaP++t) ?_ (fun b hb=>?_)
 ·unfold Wi;refine Aw (fun g=>?_) (fun g => .ret ⟨fun x=>(nomatch x),fun ⟨t,e⟩=>?_⟩)
  ·rw [Xv] at g;have g:=Aa g;have g:(7:Int)≤(s.length:Int):=g
   have hl:7≤s.length:=by omega
   refine Ax (by simp;omega) (.ret ?_);show Q1l .eql ((s.take 7).drop 0) shaP=true↔_;rw [Gz,Nb,Ag];exact ⟨fun x=>⟨_,Qs0 x⟩,fun ⟨t,e⟩=>by rw [e];rfl⟩
  rw [Xv] at g;exact absurd (by rw [e];simp [shaP];omega) (Ac g)
 refine Aw (fun g => .ret (.inr ⟨rfl,(fun t e=>by rw [hb.2 ⟨t,e⟩] at g;cases g),rfl⟩)) (fun g=>?_);obtain ⟨t,e⟩:=hb.1 (bP g);refine Ax (by rw [e];simp [shaP]) (.ret (.inl ⟨rfl,?_⟩));rw [e,Ms (Lj _)];rfl
theorem Z2a (s:List UInt8) (hs:s.length≤70000):TotP (fun N=>Q40 N s) (fun r=>r.2.2=true↔Qud s):=by
 have hm:=ml7;unfold Q40;refine At (Zv6 s) (fun w hw=>?_);obtain ⟨t,b⟩:=w;dsimp only at hw ⊢;have no:¬ Qud s->TotP (fun _=>some (([]:List UInt8),([]:List UInt8),false)) (fun r=>r.2.2=true↔Qud s):=fun x => .ret ⟨fun y=>(nomatch y),fun y=>absurd y x⟩
 have ht:t.length≤s.length:=by
  rcases hw with ⟨_,e⟩ | ⟨_,_,e⟩
  ·have:=congrArg List.length e;rw [Lf] at this;omega
  rw [e];exact Lj _
 have noP:b=false->¬ Qud s:=fun e=>by
  rcases hw with ⟨e2,_⟩ | ⟨_,e2,_⟩
  ·rw [e] at e2;cases e2
  exact fun x=>by obtain ⟨_,t',e3,_⟩:=x;exact e2 t' e3
 -- what is left where the slash is at k
 have main:b=true->∀ k:Nat,Qea t 47 0=(k:Int)->TotP (fun N=>(Yw N s).bind fun v23=>cond (!v23) (some (([]:List UInt8),([]:List UInt8),false)) ((Jx N (t.take k)).bind fun v26=>cond (!v26) (some ([],[],false)) ((Q05 N (t.drop (k+1))).bind fun v29=>cond (!v29) (some ([],[],false)) (some (t.take k,t.drop (k+1),true))))) (fun r=>r.2.2=true↔Qud s):=fun hb k hk=>by
  have es:s=shaP++t:=by
   rcases hw with ⟨_,e⟩ | ⟨e,_⟩
   ·exact e
   rw [hb] at e;cases e
  have uniq:Qud s->Vf s=true∧Q0u (t.take k)=true∧Qgu (t.drop (k+1))=true:=fun x=>by
   obtain ⟨x1,t',e,k',x2,x3,x4⟩:=x;have e2:=Qzf (es.symm.trans e);subst e2
   have:k=k':=by omega
   subst this;exact ⟨x1,x3,x4⟩
  refine Au (Q9t s) ?_;refine Aw (fun g=>no fun x=>by rw [(uniq x).1] at g;cases g) (fun g1=>?_);refine Au (Qfg (t.take k) (by rw [Mk];omega)) ?_;refine Aw (fun g=>no fun x=>by rw [(uniq x).2.1] at g;cases g) (fun g2=>?_);refine Au (Qvp (t.drop (k+1)) (by rw [Ng];omega)) ?_;refine Aw (fun g=>no fun x=>by rw [(uniq x).2.2] at g;cases g) (fun g3=>?_);exact .ret ⟨fun _=>⟨bP g1,t,es,k,hk,bP g2,bP g3⟩,fun _=>rfl⟩
 refine Aw (fun g=>?_) (fun g=>?_)
 ·rw [Gz] at g;have g:=Aa g;refine Ax (by rw [← g];rfl) ?_;refine Aw (fun gb=>no (noP (bN gb))) (fun gb=>?_);have:=main (bP gb) 0 (by rw [← g];rfl);subst g;exact this
 refine At (V:=fun v=>v=Qea t 47 0) ⟨_,rfl,.of fun _=>rfl⟩ (fun v hv=>?_);subst hv;refine Aw (fun g2=>?_) (fun g2=>?_)
 ·rw [Xv] at g2;have g2:=Aa g2
  rcases Qgy t 47 0 with h3 | ⟨k,h3,_,h4⟩
  ·omega
  rw [h3]
  have k1:wrap .i64 ((k:Int)+1)=((k+1:Nat):Int):=by rw [w64 _ (by omega)];omega
  rw [k1,Lt,Lt];refine Ax (Ad (by omega)) ?_;refine Ax (by rw [La,Lm,Lm];omega) ?_;refine Ax (Ad (by omega)) ?_;refine Ax (by rw [La,Lm,Lm];omega) ?_;refine Aw (fun gb=>no (noP (bN gb))) (fun gb=>?_);have:=main (bP gb) k h3;rw [Nb,Ms (Lj t.length)];exact this
 have nn:¬ Qud s:=fun x=>by
  cases b with
  | false=>exact noP rfl x
  | true=>
   obtain ⟨_,t',e,k',x2,_⟩:=x
   rcases hw with ⟨_,e1⟩ | ⟨e1,_⟩
   ·have e2:=Qzf (e1.symm.trans e);subst e2;rw [Xv] at g2;exact Ac g2 (by omega)
   cases e1
 exact Aw (fun _=>no nn) (fun _=>no nn)
def jnS (l:List (List UInt8)):List UInt8:=l.flatMap fun x=>47::x
theorem Qlc:∀ {s a:List UInt8} {r:List (List UInt8)},Wr s=a::r->a++jnS r=s
 | [],a,r,h=>by cases h;rfl
 | c::s,a,r,h=>by
  obtain ⟨a',r',e⟩:=Q28 s;have ih:=Qlc e
  cases hc:(c == 47) with
  | true=>
   rw [eq_of_beq hc,Qec,e] at h;cases h;rw [eq_of_beq hc,← ih];rfl
  | false=>
   rw [Q9q hc e] at h;cases h;rw [← ih];rfl
theorem Z97 {s a:List UInt8} {r:List (List UInt8)} (e:Wr s=a::r) (hs:s.length≤70000):Tot (fun N=>Gg N (a::r)) s:=by
 refine Ar ?_;have hj:=Qlc e;have hb:=Qjj hs;rw [e] at hb;unfold Gg;refine Qbi (L:=fun N n (q:List UInt8×Int)=>Yc N (a::r) n q.1 q.2) (Q:=(· = s)) (fun q=>∃ i:Nat,q.2=(i:Int)∧i≤(a::r).length∧((i=0∧q.1 = [])∨(1≤i∧q.1++jnS ((a::r).drop i)=s))) (fun q=>(a::r).length - q.2.toNat) ?_ ([],0) ⟨0,rfl,Ln _,.inl ⟨rfl,rfl⟩⟩
 rintro ⟨o,i'⟩ ⟨i,h1,h2,h3⟩
 simp only at h1 h3
 subst h1;show Stp _ _ _ (fun N n=>cond (Q4 .lss (i:Int) ((Q7 cS (a::r)).length:Int)) _ _);rw [Q3,Qf];refine AE (fun g=>?_) (fun g=>?_)
 ·have g:i<(a::r).length:=by have:=Aa g;omega
  have ei:wrap .i64 ((i:Int)+1)=((i+1:Nat):Int):=by rw [w64 _ (by omega)];omega
  have hd:(a::r).drop i=(a::r)[i]::(a::r).drop (i+1):=Mp g;have hx:=hb.2 _ (Md g);dsimp only;rw [ei,Qx];refine AE (fun g1=>?_) (fun g1=>?_)
  ·have g1:=Aa g1
   have h3:o++jnS ((a::r).drop i)=s:=by
    rcases h3 with ⟨h3,_⟩ | ⟨_,h3⟩
    ·omega
    exact h3
   have ol:o.length≤70000:=by have:=congrArg List.length h3;rw [Lf] at this;omega
   refine AF (by rw [Lm];simp only [Lx];omega) ?_;refine AD (Z3 g) ?_;refine AF (by rw [Lm];simp only [Lf,Lx];omega) ?_;refine AB (L:=fun N n (q:List UInt8×Int)=>Yc N (a::r) n q.1 q.2) (_,_) ⟨⟨i+1,rfl,by omega,.inr ⟨by omega,?_⟩⟩,by simp only [Lt];omega⟩;show ((o ++ [47])++(a::r)[i])++jnS ((a::r).drop (i+1))=s;rw [← h3,hd];show _=o++((47::(a::r)[i])++jnS ((a::r).drop (i+1)));simp only [Lq,Bb,Mx]
  have g1:=Ac g1
  obtain rfl:i=0:=by omega
  rcases h3 with ⟨_,h3⟩ | ⟨h3,_⟩
  ·subst h3;refine AD (Z3 g) ?_;refine AF (by rw [Lm];simp only [Mc];omega) ?_;refine AB (L:=fun N n (q:List UInt8×Int)=>Yc N (a::r) n q.1 q.2) (_,_) ⟨⟨1,rfl,by omega,.inr ⟨Lj _,?_⟩⟩,by simp only [Lt];omega⟩;exact hj
  omega
 have g:i=(a::r).length:=by have:=Ac g;omega
 refine AA ?_
 rcases h3 with ⟨h3,_⟩ | ⟨_,h3⟩
 ·rw [h3] at g;simp at g
 rw [← h3,g,Lz (Lj _)];show o=o ++ [];rw [Lu]
theorem Z2h (s:List UInt8) (hs:s.length≤70000):TotP (fun N=>J2 N s) (fun r=>r.2.2=true↔Qud s):=by
 have hm:=ml7;unfold J2;have no:¬ Qud s->TotP (fun _=>some (([]:List UInt8),([]:List UInt8),false)) (fun r=>r.2.2=true↔Qud s):=fun x => .ret ⟨fun y=>(nomatch y),fun y=>absurd y x⟩;refine Au (Q4k s) ?_;refine Aw (fun g=>no fun x=>by rw [x.1] at g;cases g) (fun gv=>?_);have gv:=bP gv;rw [Qf];refine Aw (fun g=>no fun x=>?_) (fun g7=>?_)
 ·obtain ⟨_,t,e,_⟩:=x;have:=Aa g;rw [e,Lf] at this;simp [shaP] at this;omega
 have g7:7≤s.length:=by have:=Ac g7;omega
 refine Ax (by rw [La,Lm,Lm];omega) ?_;rw [Nb,Q8t];refine Aw (fun g=>no fun x=>?_) (fun g=>?_)
 ·obtain ⟨_,t,e,_⟩:=x;exact Aa g (by rw [e];rfl)
 have g:s.take 7=shaP:=Decidable.byContradiction fun x=>Ac g x;have es:=Qs0 g;generalize hT:s.drop 7=t at es
 have ht:t.length≤s.length:=by rw [← hT,Ng];omega
 have e6:Qea s 47 0=((0+6:Nat):Int):=by rw [es];rfl
 have hsp:=(Qcf s 0 6 e6).1;rw [show s.drop (6+1)=t from hT] at hsp;refine Au (Qxj s hs) ?_;rw [Q3,Qf]
 have uniq:∀ k:Nat,Qea t 47 0=(k:Int)->Qud s->Q0u (t.take k)=true∧Qgu (t.drop (k+1))=true:=fun k hk x=>by
  obtain ⟨x1,t',e,k',x2,x3,x4⟩:=x;have e2:=Qzf (es.symm.trans e);subst e2
  have:k=k':=by omega
  subst this;exact ⟨x3,x4⟩
 rcases Qgy t 47 0 with h3 | ⟨k,h3,_,h4⟩
 ·have nn:¬ Qud s:=fun x=>by
   obtain ⟨_,t',e,k',x2,_⟩:=x;have e2:=Qzf (es.symm.trans e);subst e2;omega
  rw [hsp,Qct t 0 h3];exact Aw (fun _=>no nn) (fun g=>nomatch g)
 have hk:=Qcf t 0 k (by rw [h3];omega)
 have hl:Wr s=s.take 6::t.take k::Wr (t.drop (k+1)):=by rw [hsp,hk.1]
 obtain ⟨a,r,ea⟩:=Q28 (t.drop (k+1))
 have hn:Q0u (t.take k)=(decide (t.take k ≠ []) && !(Qs5 (t.take k))):=by
  have hv:Vf (t.take k)=true:=Qu0 (b:=t.drop (k+1)) (by rw [← hk.2.2,← es];exact gv);unfold Q0u;rw [hv,Bool.and_true]
 have i1:idx (Wr s) 1=some (t.take k):=by rw [hl];rfl
 have hlen:(Wr s).length=3+r.length:=by rw [hl,ea];simp only [Li];omega
 have hT1:(t.take k).length≤maxLen:=by rw [Mk];omega
 have hh:=Qr3 (t.take k);refine Aw (fun g=>absurd (Aa g) (by omega)) (fun _=>?_);refine Ay i1 ?_;rw [Gz];refine Aw (fun g=>no fun x=>?_) (fun g1=>?_)
 ·have:=(uniq k h3 x).1;rw [Aa g] at this;exact absurd this (by decide)
 refine Ay i1 ?_;refine Au (Qgh (t.take k) hT1 43) ?_;refine Aw (fun g=>no fun x=>?_) (fun g2=>?_)
 ·have:=(uniq k h3 x).1;rw [hn,hh,g,Bool.true_or] at this;simp at this
 refine Ay i1 ?_;refine Au (Qgh (t.take k) hT1 35) ?_;refine Aw (fun g=>no fun x=>?_) (fun g3=>?_)
 ·have:=(uniq k h3 x).1;rw [hn,hh,g,Bool.or_true] at this;simp at this
 have hname:Q0u (t.take k)=true:=by
  rw [hn,hh,g2,g3,Ad (Ac g1)];rfl
 refine Ax (by rw [La,Lm,Lm];omega) ?_
 have hd2:(Wr s).drop 2=a::r:=by rw [hl,ea];rfl
 rw [hd2];refine Au (Z97 ea (by rw [Ng];omega)) ?_;refine Au (Qvx (t.drop (k+1)) (by rw [Ng];omega)) ?_;refine Aw (fun g=>no fun x=>by rw [(uniq k h3 x).2] at g;cases g) (fun g4=>?_);refine Ay i1 (.ret ⟨fun _=>⟨gv,t,es,k,h3,hname,bP g4⟩,fun _=>rfl⟩)
end
end Go.Av
namespace Go.Av
noncomputable section
def Quu (v:Int) (p:Q1):Q1:=cond (decide (p.Kind=8∨p.Kind=10)) ⟨p.Kind,false,false,0,p.ID,[],[],false,0,[],false,[],false,[],false,(⟨[],[],0,false,[]⟩:Y5),false,0,[],p.Filters,p.Props⟩
 (cond (decide (p.Kind=9∨v=5)) ⟨p.Kind,false,false,0,p.ID,[],[],false,0,[],false,[],false,[],false,(⟨[],[],0,false,[]⟩:Y5),false,0,p.Codes,[],p.Props⟩ ⟨p.Kind,false,false,0,p.ID,[],[],false,0,[],false,[],false,[],false,(⟨[],[],0,false,[]⟩:Y5),false,0,[],[],p.Props⟩)
def Z1k (v:Int) (p:Q1):Prop:=(v=4∨v=5)∧8≤p.Kind∧p.Kind≤11
def Qur (v:Int) (p:Q1):Prop:=p=Quu v p∧(1≤p.ID∧p.ID≤65535)∧(v=4->p.Props = [])∧(p.Kind=11∧v=4∨p.Filters.length+p.Codes.length≠0)
def Z5l (c:Int):Bool:=decide (c=0∨c=1∨c=2∨c=128)
def Qvg (v k c:Int):Bool:=if v=4 then Z5l c else Qqu k c
def Qtt (v k:Int):List Int->Int
 | []=>0
 | c::r=>if Qvg v k c=false then 2 else Qtt v k r
def Qnl (v k:Int) (f:Qa):Prop:=if k=10 then f.QoS=0∧f.NoLocal=false∧f.AsPublished=false∧f.Handling=0 else
 (0≤f.QoS∧f.QoS≤2)∧(v=4->f.NoLocal=false∧f.AsPublished=false∧f.Handling=0)∧(v≠4->(0≤f.Handling∧f.Handling≤2)∧¬ (f.NoLocal=true∧Qud f.Topic))
open Classical in
noncomputable def Qlk (v k:Int) (cs:List Int):List Qa->Int
 | []=>Qtt v k cs
 | f::r=>if Qgu f.Topic=false then 10 else if Qnl v k f then Qlk v k cs r else 2
open Classical in
noncomputable def Qrc (v:Int) (p:Q1):Int:=if Z1k v p∧Qur v p then (if Q83 p.Kind [] p.Props≠0 then Q83 p.Kind [] p.Props else Qlk v p.Kind p.Codes p.Filters) else 2
theorem Q89 {v:Int} {p:Q1} (h:¬ (Z1k v p∧Qur v p)):TotP (fun _=>some (2:Int)) (· = Qrc v p) := .ret (by unfold Qrc;rw [Ae h])
theorem Qw9 (v k:Int) (cs:List Int) {l:List Qa} {i:Nat} (hi:i<l.length):(Qgu l[i].Topic=false->Qlk v k cs (l.drop i)=10)∧(Qgu l[i].Topic=true->¬ Qnl v k l[i]->Qlk v k cs (l.drop i)=2)∧(Qgu l[i].Topic=true->Qnl v k l[i]->Qlk v k cs (l.drop i)=Qlk v k cs (l.drop (i+1))):=by
 rw [Mp hi];refine ⟨fun h=>?_,fun h h2=>?_,fun h h2=>?_⟩
 ·show (if Qgu l[i].Topic=false then (10:Int) else _)=10;rw [Af h]
 ·show (if Qgu l[i].Topic=false then (10:Int) else _)=2;rw [Ae (by rw [h];decide),Ae h2]
 show (if Qgu l[i].Topic=false then (10:Int) else _)=_;rw [Ae (by rw [h];decide),Af h2]
theorem Z53 (v k:Int) {l:List Int} {i:Nat} (hi:i<l.length):(Qvg v k l[i]=false->Qtt v k (l.drop i)=2)∧(Qvg v k l[i]=true->Qtt v k (l.drop i)=Qtt v k (l.drop (i+1))):=by
 rw [Mp hi];refine ⟨fun h=>?_,fun h=>?_⟩
 ·show (if Qvg v k l[i]=false then (2:Int) else _)=2;rw [Af h]
 show (if Qvg v k l[i]=false then (2:Int) else _)=_;rw [Ae (by rw [h];decide)]
section
variable {v k:Int} {l:List Int} {fs:List Qa}
theorem Qn0 (hl:l.length≤30) {L1:Nat->Nat->Int->Option Int} {A:Nat->Int->Option Bool} (hA:∀ c,Tot (fun N=>A N c) (Qvg v k c))
  (h1:∀ N n i,L1 N (n+1) i=cond (Q4 .lss i ((Q7 (cI .i64) l).length:Int)) ((idx l i).bind fun y=>(A N y).bind fun w=>cond (!w) (some 2) (L1 N n (wrap .i64 (i+1)))) (some 0)) (h0:∀ N i,L1 N 0 i=none):Tot (fun N=>L1 N N 0) (Qtt v k l):=by
 refine Ar ?_;refine Q70 (L:=L1) l.length (fun i=>Qtt v k (l.drop i)=Qtt v k l) (fun i hi hJ=>?_) (fun hJ=>?_) rfl
 ·have hc:=Z53 v k hi;rw [hJ] at hc
  have e:(fun N n=>L1 N (n+1) (i:Int))=fun N n=>cond (Q4 .lss (i:Int) ((Q7 (cI .i64) l).length:Int)) ((idx l (i:Int)).bind fun y=>(A N y).bind fun w=>cond (!w) (some 2) (L1 N n (wrap .i64 ((i:Int)+1)))) (some 0):=by funext N n;exact h1 N n _
  rw [e,Q3,Qf];refine AE (fun _=>?_) (fun h=>by have:=Ac h;omega);refine AD (Z3 hi) ?_;refine AC (V:=(· = Qvg v k l[i])) ⟨_,rfl,hA _⟩ (fun w hw=>?_);subst hw;refine AE (fun g=>AA (hc.1 (bN g)).symm) (fun g=>?_);rw [w64 _ (by omega)];exact AB (L:=L1) _ ⟨by omega,(hc.2 (bP g)).symm⟩
 have e:(fun N n=>L1 N (n+1) (l.length:Int))=fun N n=>cond (Q4 .lss (l.length:Int) ((Q7 (cI .i64) l).length:Int)) ((idx l (l.length:Int)).bind fun y=>(A N y).bind fun w=>cond (!w) (some 2) (L1 N n (wrap .i64 ((l.length:Int)+1)))) (some 0):=by funext N n;exact h1 N n _
 rw [e,Q3,Qf,Ab (by omega)];refine AA ?_;rw [← hJ,Lz (Lj _)];rfl
theorem Qqv (hf:fs.length≤30) {L0:Nat->Nat->Int->Option Int} {E:Nat->Option Int} {F:Nat->List UInt8->Option Bool} {O:Nat->Qa->Option Bool} (hE:Tot E (Qtt v k l)) (hF:∀ f∈fs,Tot (fun N=>F N f.Topic) (Qgu f.Topic)) (hO:∀ f∈fs,TotP (fun N=>O N f) (fun b=>b=true↔Qnl v k f))
  (h1:∀ N n i,L0 N (n+1) i=cond (Q4 .lss i ((Q7 Qa.cells fs).length:Int)) ((idx fs i).bind fun y=>(F N y.Topic).bind fun w=>cond (!w) (some 10) ((idx fs i).bind fun y=>(O N y).bind fun w=>cond (!w) (some 2) (L0 N n (wrap .i64 (i+1))))) (E N)):Tot (fun N=>L0 N N 0) (Qlk v k l fs):=by
 refine Ar ?_;refine Q70 (L:=L0) fs.length (fun i=>Qlk v k l (fs.drop i)=Qlk v k l fs) (fun i hi hJ=>?_) (fun hJ=>?_) rfl
 ·have hc:=Qw9 v k l hi;rw [hJ] at hc
  have e:(fun N n=>L0 N (n+1) (i:Int))=fun N n=>cond (Q4 .lss (i:Int) ((Q7 Qa.cells fs).length:Int)) ((idx fs (i:Int)).bind fun y=>(F N y.Topic).bind fun w=>cond (!w) (some 10) ((idx fs (i:Int)).bind fun y=>(O N y).bind fun w=>cond (!w) (some 2) (L0 N n (wrap .i64 ((i:Int)+1))))) (E N):=by funext N n;exact h1 N n _
  rw [e,Q3,Qf];refine AE (fun _=>?_) (fun h=>by have:=Ac h;omega);refine AD (Z3 hi) ?_;refine AC (V:=(· = Qgu fs[i].Topic)) ⟨_,rfl,hF _ (Md hi)⟩ (fun w hw=>?_);subst hw;refine AE (fun g=>AA (hc.1 (bN g)).symm) (fun g=>?_);refine AD (Z3 hi) ?_;refine AC (hO _ (Md hi)) (fun w hw=>?_);refine AE (fun g2=>AA (hc.2.1 (bP g) (fun x=>by rw [hw.2 x] at g2;cases g2)).symm) (fun g2=>?_);rw [w64 _ (by omega)];exact AB (L:=L0) _ ⟨by omega,(hc.2.2 (bP g) (hw.1 (bP g2))).symm⟩
 have e:(fun N n=>L0 N (n+1) (fs.length:Int))=fun N n=>cond (Q4 .lss (fs.length:Int) ((Q7 Qa.cells fs).length:Int)) ((idx fs (fs.length:Int)).bind fun y=>(F N y.Topic).bind fun w=>cond (!w) (some 10) ((idx fs (fs.length:Int)).bind fun y=>(O N y).bind fun w=>cond (!w) (some 2) (L0 N n (wrap .i64 ((fs.length:Int)+1))))) (E N):=by funext N n;exact h1 N n _
 rw [e,Q3,Qf,Ab (by omega)];refine Az ?_;rw [← hJ,Lz (Lj _)];obtain ⟨N0,h⟩:=hE;exact ⟨_,rfl,N0,h⟩
end
theorem Zuk (N:Nat) (c:Int):Q45 N c=some (Z5l c):=by
 unfold Q45 Z5l;rw [Q9,Q9,Q9,Q9]
 by_cases h0:c=0<;>by_cases h1:c=1<;>by_cases h2:c=2<;>by_cases h3:c=128<;>simp [h0,h1,h2,h3]
theorem Zso (N:Nat) (c:Int):Jk N c=some (Z5l c):=by
 unfold Jk Z5l;rw [Q9,Q9,Q9,Q9]
 by_cases h0:c=0<;>by_cases h1:c=1<;>by_cases h2:c=2<;>by_cases h3:c=128<;>simp [h0,h1,h2,h3]
theorem Z94 (v k c:Int):Tot (fun N=>Q0i N v k c) (Qvg v k c):=by
 refine Ar ?_;unfold Q0i Qvg;rw [Q9];refine Aw (fun g=>?_) (fun g=>?_)
 ·rw [Af (Aa g)];exact Au (.of fun N=>Zuk N c) (.ret rfl)
 rw [Ae (Ac g)];exact Au (Qi5 k c) (.ret rfl)
theorem Z47 (v k c:Int):Tot (fun N=>V6 N v k c) (Qvg v k c):=by
 refine Ar ?_;unfold V6 Qvg;rw [Q9];refine Aw (fun g=>?_) (fun g=>?_)
 ·rw [Af (Aa g)];exact Au (.of fun N=>Zso N c) (.ret rfl)
 rw [Ae (Ac g)];exact Au (Qia k c) (.ret rfl)
theorem Z8m (v k:Int) (f:Qa) (hf:f.Topic.length≤2000):TotP (fun N=>Q0b N v k f) (fun b=>b=true↔Qnl v k f):=by
 have hbl:∀ (N:Nat) (n:Int),Jb N n=some (decide (0≤n∧n≤2)):=fun N n=>by
  unfold Jb;rw [Xv,Qf]
  by_cases h:0≤n
  ·rw [Ad (p:=n≥0) h];show some (decide (n<3))=_
   congr 1;rw [decide_eq_decide];omega
  rw [Ab (p:=n≥0) h,Ab (p:=0≤n∧n≤2) (by omega)];rfl
 have fal:∀ {A:Prop},¬ A->TotP (fun _=>some false) (fun b=>b=true↔A):=fun x => .ret ⟨fun y=>(nomatch y),fun y=>absurd y x⟩
 have hpl:(((f.Topic:List UInt8) == f.Topic)&&(((f.QoS:Int) == f.QoS)&&(((f.NoLocal:Bool) == false)&&(((f.AsPublished:Bool) == false)&&(((f.Handling:Int) == 0)&&true)))))=decide (f.NoLocal=false∧f.AsPublished=false∧f.Handling=0):=by
  simp [Bool.decide_and];cases f.NoLocal<;>cases f.AsPublished<;>simp<;>rfl
 unfold Q0b Qnl;rw [hpl,Q9,Q9,Q9];refine Aw (fun g=>?_) (fun g=>?_)
 ·rw [Af (Aa g)];refine Aw (fun g1 => .ret ?_) (fun g1=>fal fun x=>Ac g1 x.2);have g1:=Aa g1;exact ⟨fun y=>⟨Aa y,g1⟩,fun x=>Ad x.1⟩
 rw [Ae (Ac g)];refine Aw (fun g4=>?_) (fun g4=>?_)
 ·have g4:=Aa g4;refine Aw (fun g1=>?_) (fun g1=>fal fun x=>Ac g1 (x.2.1 g4));have g1:=Aa g1;refine Au (.of fun N=>hbl N f.QoS) (.ret ⟨fun y=>⟨Aa y,fun _=>g1,fun x=>absurd g4 x⟩,fun x=>Ad x.1⟩)
 have g4:=Ac g4;refine At (Z2a f.Topic (by omega)) (fun w hw=>?_);refine Au (.of fun N=>hbl N f.QoS) ?_;refine Aw (fun g1=>?_) (fun g1=>fal fun x=>Ac g1 x.1);refine Au (.of fun N=>hbl N f.Handling) ?_;refine Aw (fun g2=>?_) (fun g2=>fal fun x=>Ac g2 (x.2.2 g4).1);have g1:=Aa g1;have g2:=Aa g2;refine Aw (fun g3 => .ret ?_) (fun g3 => .ret ?_)
 ·exact ⟨fun y=>⟨g1,fun x=>absurd x g4,fun _=>⟨g2,fun x=>by rw [x.1] at y;cases y⟩⟩,fun x=>by
   cases hn:f.NoLocal with
   | false=>rfl
   | true=>exact absurd ⟨hn,hw.1 g3⟩ (x.2.2 g4).2⟩
 exact ⟨fun _=>⟨g1,fun x=>absurd x g4,fun _=>⟨g2,fun x=>by rw [hw.2 x.2] at g3;cases g3⟩⟩,fun _=>rfl⟩
theorem Z8b (v k:Int) (f:Qa) (hf:f.Topic.length≤2000):TotP (fun N=>Yx N v k f) (fun b=>b=true↔Qnl v k f):=by
 have fal:∀ {A:Prop},¬ A->TotP (fun _=>some false) (fun b=>b=true↔A):=fun x => .ret ⟨fun y=>(nomatch y),fun y=>absurd y x⟩
 have hpl:(((f.Topic:List UInt8) == f.Topic)&&(((f.QoS:Int) == 0)&&(((f.NoLocal:Bool) == false)&&(((f.AsPublished:Bool) == false)&&(((f.Handling:Int) == 0)&&true)))))=decide (f.QoS=0∧f.NoLocal=false∧f.AsPublished=false∧f.Handling=0):=by
  simp [Bool.decide_and];cases f.NoLocal<;>cases f.AsPublished<;>simp<;>rfl
 unfold Yx Qnl;rw [hpl,Q9,Qf,Qx,Qf,Qx,Q9,Q9];refine Aw (fun g => .ret ?_) (fun g=>?_)
 ·rw [Af (Aa g)];exact ⟨fun y=>Aa y,fun x=>Ad x⟩
 rw [Ae (Ac g)];refine Aw (fun g1=>fal fun x=>by have:=Aa g1;have:=x.1;omega) (fun g1=>?_);refine Aw (fun g2=>fal fun x=>by have:=Aa g2;have:=x.1;omega) (fun g2=>?_);have g1:=Ac g1;have g2:=Ac g2
 have hb:∀ {P:Prop},(v=4->f.Handling=0)->(v≠4->0≤f.Handling∧f.Handling≤2)->(¬ (0≤f.Handling∧f.Handling≤2)->P):=fun a b c=>by
  by_cases h:v=4
  ·have:=a h;omega
  exact absurd (b h) c
 refine Aw (fun g3=>fal fun x=>hb (fun y=>(x.2.1 y).2.2) (fun y=>(x.2.2 y).1) (by have:=Aa g3;omega)) (fun g3=>?_);refine Aw (fun g4=>fal fun x=>hb (fun y=>(x.2.1 y).2.2) (fun y=>(x.2.2 y).1) (by have:=Aa g4;omega)) (fun g4=>?_);have g3:=Ac g3;have g4:=Ac g4;refine Aw (fun g5=>?_) (fun g5=>?_)
 ·have g5:=Aa g5;refine Aw (fun g6=>?_) (fun g6=>fal fun x=>by rw [(x.2.1 g5).1] at g6;cases g6);refine Aw (fun g7 => .ret ?_) (fun g7=>fal fun x=>by rw [(x.2.1 g5).2.1] at g7;cases g7);exact ⟨fun y=>⟨by omega,fun _=>⟨bN g6,bN g7,Aa y⟩,fun x=>absurd g5 x⟩,fun x=>Ad (x.2.1 g5).2.2⟩
 have g5:=Ac g5;refine At (Z2h f.Topic (by omega)) (fun w hw=>?_);refine Aw (fun g6 => .ret ?_) (fun g6 => .ret ?_)
 ·exact ⟨fun _=>⟨by omega,fun x=>absurd x g5,fun _=>⟨by omega,fun x=>by rw [x.1] at g6;cases g6⟩⟩,fun _=>rfl⟩
 exact ⟨fun y=>⟨by omega,fun x=>absurd x g5,fun _=>⟨by omega,fun x=>by rw [hw.2 x.2] at y;cases y⟩⟩,fun x=>by
  cases hs:w.2.2 with
  | false=>rfl
  | true=>exact absurd ⟨bP g6,hw.1 hs⟩ (x.2.2 g5).2⟩
end
end Go.Av
namespace Go.Av
noncomputable section
theorem Qpx {v:Int} {p:Q1} (h:Z1k v p∧Qur v p):Qrc v p=if Q83 p.Kind [] p.Props≠0 then Q83 p.Kind [] p.Props else Qlk v p.Kind p.Codes p.Filters:=by unfold Qrc;rw [Af h]
section
variable {v:Int} {p:Q1} (h:Qdi p)
include h
theorem Qz9:Tot (fun N=>W4 N v p N 0) (Qlk v p.Kind p.Codes p.Filters):=by
 have hf:=h.filters;have h1:Tot (fun N=>V7 N v p N 0) (Qtt v p.Kind p.Codes):=Qn0 h.codes (L1:=fun N n i=>V7 N v p n i) (fun c=>Z94 v p.Kind c) (fun _ _ _=>rfl) (fun _ _=>rfl);refine Ar ?_;refine Q70 (L:=fun N n i=>W4 N v p n i) p.Filters.length (fun i=>Qlk v p.Kind p.Codes (p.Filters.drop i)=Qlk v p.Kind p.Codes p.Filters) (fun i hi hJ=>?_) (fun hJ=>?_) rfl
 ·have hc:=Qw9 v p.Kind p.Codes hi;rw [hJ] at hc;have ht:=hf.2 _ (Md hi);show Stp _ _ _ (fun N n=>cond (Q4 .lss (i:Int) ((Q7 Qa.cells p.Filters).length:Int)) _ _);rw [Q3,Qf];refine AE (fun _=>?_) (fun h=>by have:=Ac h;omega);refine AD (Z3 hi) ?_;refine AC (V:=(· = Qgu p.Filters[i].Topic)) ⟨_,rfl,Qvp _ (by omega)⟩ (fun w hw=>?_);subst hw;refine AE (fun g=>AA (hc.1 (bN g)).symm) (fun g=>?_);refine AC (Z8m v p.Kind p.Filters[i] ht) (fun w hw=>?_);refine AE (fun g2=>AA (hc.2.1 (bP g) (fun x=>by rw [hw.2 x] at g2;cases g2)).symm) (fun g2=>?_);rw [w64 _ (by omega)];exact AB (L:=fun N n i=>W4 N v p n i) _ ⟨by omega,(hc.2.2 (bP g) (hw.1 (bP g2))).symm⟩
 show Stp _ _ _ (fun N n=>cond (Q4 .lss (p.Filters.length:Int) ((Q7 Qa.cells p.Filters).length:Int)) _ _);rw [Q3,Qf,Ab (by omega)];refine Az ?_;rw [← hJ,Lz (Lj _)];obtain ⟨N0,h⟩:=h1;exact ⟨_,rfl,N0,h⟩
theorem Z96:Tot (fun N=>Q1r N v p) (Qrc v p):=by
 refine Ar ?_;have e0:∀ l:List Q6,l = []↔l.length=0:=fun l=>Mh.symm;have hf:=h.filters.1;have hc:=h.codes
 have hkn:∀ N,Q1v N v p.Kind=some (decide ((v=4∨v=5)∧8≤p.Kind∧p.Kind≤11)):=fun N=>by
  unfold Q1v;rw [Q9,Q9,Xv,X2]
  by_cases h4:v=4<;>by_cases h5:v=5<;>by_cases hk:8≤p.Kind<;>by_cases hk2:p.Kind≤11<;>simp [h4,h5,hk,hk2]
 unfold Q1r;refine Au (.of hkn) ?_;refine Aw (fun g=>Q89 fun x=>Ac (bN g) x.1) (fun g=>?_);have hK':=Aa (bP g);have hK:Z1k v p:=hK';have hk:=hK.2
 haveI:Kd p.Kind:=⟨by omega,by omega⟩
 have hfl:TotP (fun N=>Q19 N v p) (fun b=>b=true↔Qur v p):=by
  have no:¬ Qur v p->TotP (fun _=>some false) (fun b=>b=true↔Qur v p):=fun x => .ret ⟨fun y=>(nomatch y),fun y=>absurd y x⟩
  have hfi:∀ N,Vj N p.Kind=some (decide (p.Kind=8∨p.Kind=10)):=fun N=>by
   unfold Vj;rw [Q9,Q9,Cu];cases decide (p.Kind=8)<;>rfl
  have hsi:∀ N,Uh N v p.Kind=some (decide (p.Kind=11∧v=4)):=fun N=>by
   unfold Uh;rw [Q9,Q9,Bg];cases decide (p.Kind=11)<;>rfl
  have same:∀ q:Q1,Quu v p=q->(1≤p.ID∧p.ID≤65535)->(v=4->p.Props = [])->(p=Quu v p->p.Kind=11∧v=4∨p.Filters.length+p.Codes.length≠0)->TotP (fun N=>(Z5 N p q).bind fun v9=>some v9) (fun b=>b=true↔Qur v p):=fun q e a b c=>by
   rw [← e];exact At (Q25 p (Quu v p) h.l) (fun w hw => .ret ⟨fun y=>⟨hw.1 y,a,b,c (hw.1 y)⟩,fun x=>hw.2 x.1⟩)
  have tail:(1≤p.ID∧p.ID≤65535)->(v=4->p.Props = [])->TotP (fun N=>(Vj N p.Kind).bind fun v5=>cond v5 (cond (Q4 .gtr ((Q7 Qa.cells p.Filters).length:Int) 0) ((Z5 N p (⟨p.Kind,false,false,0,p.ID,[],[],false,0,[],false,[],false,[],false,(⟨[],[],0,false,[]⟩:Y5),false,0,[],p.Filters,p.Props⟩:Q1)).bind fun v9=>some v9) (some false))
    ((Uh N v p.Kind).bind fun v11=>cond v11 ((Z5 N p (⟨p.Kind,false,false,0,p.ID,[],[],false,0,[],false,[],false,[],false,(⟨[],[],0,false,[]⟩:Y5),false,0,[],[],p.Props⟩:Q1)).bind fun v14=>some v14)
    (cond (Q4 .gtr ((Q7 (cI .i64) p.Codes).length:Int) 0) ((Z5 N p (⟨p.Kind,false,false,0,p.ID,[],[],false,0,[],false,[],false,[],false,(⟨[],[],0,false,[]⟩:Y5),false,0,p.Codes,[],p.Props⟩:Q1)).bind fun v17=>some v17) (some false)))) (fun b=>b=true↔Qur v p):=fun a b=>by
   refine Au (.of hfi) ?_;refine Aw (fun g1=>?_) (fun g1=>?_)
   ·have eu:Quu v p=⟨p.Kind,false,false,0,p.ID,[],[],false,0,[],false,[],false,[],false,(⟨[],[],0,false,[]⟩:Y5),false,0,[],p.Filters,p.Props⟩:=by unfold Quu;rw [g1];rfl
    have g1:=Aa g1;rw [Qx,Q3];refine Aw (fun g2=>same _ eu a b fun _ => .inr (by have:=Aa g2;omega)) (fun g2=>no fun x=>?_);have g2:=Ac g2
    have ec:p.Codes = []:=by
     have:=congrArg Q1.Codes x.1;rw [eu] at this;exact this
    rcases x.2.2.2 with y | y
    ·omega
    rw [ec,Mc] at y;omega
   have nu:=g1;have g1:=Ac g1;refine Au (.of hsi) ?_;refine Aw (fun g2=>?_) (fun g2=>?_)
   ·have g2:=Aa g2;exact same _ (by unfold Quu;rw [nu,Ab (p:=p.Kind=9∨v=5) (by omega)];rfl) a b fun _ => .inl g2
   have g2:=Ac g2;have hv:=hK.1
   have eu:Quu v p=⟨p.Kind,false,false,0,p.ID,[],[],false,0,[],false,[],false,[],false,(⟨[],[],0,false,[]⟩:Y5),false,0,p.Codes,[],p.Props⟩:=by unfold Quu;rw [nu,Ad (p:=p.Kind=9∨v=5) (by omega)];rfl
   rw [Qx,Q3];refine Aw (fun g3=>same _ eu a b fun _ => .inr (by have:=Aa g3;omega)) (fun g3=>no fun x=>?_);have g3:=Ac g3
   have ef:p.Filters = []:=by
    have:=congrArg Q1.Filters x.1;rw [eu] at this;exact this
   rcases x.2.2.2 with y | y
   ·exact g2 y
   rw [ef,Mc] at y;omega
  unfold Q19;rw [Qf,Qx];refine Aw (fun g=>no fun x=>by have:=Aa g;have:=x.2.1;omega) (fun g1=>?_);refine Aw (fun g=>no fun x=>by have:=Aa g;have:=x.2.1;omega) (fun g2=>?_);have g1:=Ac g1;have g2:=Ac g2;refine Aw (fun g4=>?_) (fun g4=>?_)
  ·rw [Q9] at g4;have g4:=Aa g4;refine Aw (fun g5=>no fun x=>?_) (fun g5=>tail ⟨by omega,by omega⟩ fun _=>?_)
   ·rw [Qx,Q3] at g5;have:=Aa g5;rw [x.2.2.1 g4] at this;exact absurd this (by decide)
   rw [Qx,Q3] at g5;exact (e0 _).2 (by have:=Ac g5;omega)
  rw [Q9] at g4;exact tail ⟨by omega,by omega⟩ fun x=>absurd x (Ac g4)
 refine At hfl (fun b hb=>?_);refine Aw (fun g=>Q89 fun x=>by rw [hb.2 x.2] at g;cases g) (fun g=>?_);rw [Qpx ⟨hK,hb.1 (bP g)⟩];refine Au (Q9u h p.Kind) ?_;rw [Qp];refine Aw (fun g => .ret (by rw [Af (Aa g)])) (fun g=>?_);rw [Ae (Ac g)];obtain ⟨N0,hh⟩:=Qz9 h;exact ⟨_,rfl,N0,hh⟩
theorem Z6g:Tot (fun N=>U0 N v p) (Qrc v p):=by
 refine Ar ?_;have e0:∀ l:List Q6,l = []↔l.length=0:=fun l=>Mh.symm;have hf:=h.filters.1;have hc:=h.codes;have hF:∀ f∈p.Filters,Tot (fun N=>Yl N f.Topic) (Qgu f.Topic):=fun f hf=>Qvx _ (by have:=h.filters.2 f hf;omega);have hO:∀ f∈p.Filters,TotP (fun N=>Yx N v p.Kind f) (fun b=>b=true↔Qnl v p.Kind f):=fun f hf=>Z8b v p.Kind f (h.filters.2 f hf);have c1:Tot (fun N=>Xd N v p N 0) (Qtt v p.Kind p.Codes):=Qn0 h.codes (L1:=fun N n i=>Xd N v p n i) (fun c=>Z47 v p.Kind c) (fun _ _ _=>rfl) (fun _ _=>rfl);have c3:Tot (fun N=>Xe N v p N 0) (Qtt v p.Kind p.Codes):=Qn0 h.codes (L1:=fun N n i=>Xe N v p n i) (fun c=>Z47 v p.Kind c) (fun _ _ _=>rfl) (fun _ _=>rfl);have c5:Tot (fun N=>Xi N v p N 0) (Qtt v p.Kind p.Codes):=Qn0 h.codes (L1:=fun N n i=>Xi N v p n i) (fun c=>Z47 v p.Kind c) (fun _ _ _=>rfl) (fun _ _=>rfl);have f0:Tot (fun N=>Xh N v p N 0) (Qlk v p.Kind p.Codes p.Filters):=Qqv hf (L0:=fun N n i=>Xh N v p n i) c1 hF hO (fun _ _ _=>rfl);have f2:Tot (fun N=>Xf N v p N 0) (Qlk v p.Kind p.Codes p.Filters):=Qqv hf (L0:=fun N n i=>Xf N v p n i) c3 hF hO (fun _ _ _=>rfl);have f4:Tot (fun N=>Xc N v p N 0) (Qlk v p.Kind p.Codes p.Filters):=Qqv hf (L0:=fun N n i=>Xc N v p n i) c5 hF hO (fun _ _ _=>rfl)
 have hus:∀ N,Gm N v p=some (Quu v p):=fun N=>by
  unfold Gm Q1m Quu;rw [Q9,Q9,Q9,Q9]
  by_cases h8:p.Kind=8<;>by_cases h10:p.Kind=10<;>by_cases h9:p.Kind=9<;>by_cases h5:v=5<;>simp [h8,h10,h9,h5]<;>omega
 unfold U0;refine Au (.of fun N=>Qek N v) ?_;refine Aw (fun g=>Q89 fun x=>Ac (bN g) x.1.1) (fun gv=>?_);refine Au (v:=decide (8≤p.Kind∧p.Kind≤11)) (.of fun N=>?_) ?_
 ·unfold Q0y;rw [Xv,X2,Bg];cases decide (p.Kind≥8)<;>rfl
 refine Aw (fun g=>Q89 fun x=>Ac (bN g) x.1.2) (fun gk=>?_);have hK:Z1k v p:=⟨Aa (bP gv),Aa (bP gk)⟩;have hk:=hK.2
 haveI:Kd p.Kind:=⟨by omega,by omega⟩
 refine Au (.of hus) ?_;refine At (Jt p (Quu v p) h.l) (fun b hb=>?_);refine Aw (fun g=>Q89 fun x=>by rw [hb.2 x.2.1] at g;cases g) (fun g=>?_);have hu:=hb.1 (bP g);rw [Qf,Qx];refine Aw (fun g=>Q89 fun x=>by have:=Aa g;have:=x.2.2.1;omega) (fun g1=>?_);refine Aw (fun g=>Q89 fun x=>by have:=Aa g;have:=x.2.2.1;omega) (fun g2=>?_);have g1:=Ac g1;have g2:=Ac g2
 have fin:∀ {E:Nat->Option Int},Tot E (Qlk v p.Kind p.Codes p.Filters)->Qur v p->TotP (fun N=>(Q5 N v p.Kind p.Props).bind fun v18=>cond (Q4 .neq v18 0) (some v18) (E N)) (· = Qrc v p):=fun hE hG=>by
  rw [Qpx ⟨hK,hG⟩];refine Au (Q7c h hG.2.2.1) ?_;rw [Qp];refine Aw (fun g => .ret (by rw [Af (Aa g)])) (fun g=>?_);rw [Ae (Ac g)];obtain ⟨N0,hh⟩:=hE;exact ⟨_,rfl,N0,hh⟩
 have ew:wrap .i64 (((Q7 Qa.cells p.Filters).length:Int)+((Q7 (cI .i64) p.Codes).length:Int))=((p.Filters.length+p.Codes.length:Nat):Int):=by
  rw [Q3,Q3,w64 _ (by omega)];omega
 rw [ew,Q9,Qx,Q3,Q9,Q9];refine Aw (fun g4=>?_) (fun g4=>?_)
 ·have g4:=Aa g4;refine Aw (fun g5=>Q89 fun x=>by have:=Aa g5;rw [x.2.2.2.1 g4] at this;exact absurd this (by decide)) (fun g5=>?_);have hz:p.Props = []:=(e0 _).2 (by have:=Ac g5;omega);refine Aw (fun g6=>?_) (fun g6=>fin f2 ⟨hu,by omega,fun _=>hz,.inr (by have:=Ac g6;omega)⟩);have g6:=Aa g6;refine Aw (fun g7=>fin f0 ⟨hu,by omega,fun _=>hz,.inl ⟨Aa g7,g4⟩⟩) (fun g7=>Q89 fun x=>?_)
  rcases x.2.2.2.2 with y | y
  ·exact Ac g7 y.1
  omega
 have g4:=Ac g4;refine Aw (fun g6=>?_) (fun g6=>fin f4 ⟨hu,by omega,fun x=>absurd x g4,.inr (by have:=Ac g6;omega)⟩);have g6:=Aa g6
 have nn:¬ (Z1k v p∧Qur v p):=fun x=>by
  rcases x.2.2.2.2 with y | y
  ·exact g4 y.2
  omega
 exact Aw (fun _=>Q89 nn) (fun _=>Q89 nn)
end
end
end Go.Av
namespace Go.Av
noncomputable section
def optN (f:Qa):Int:=f.QoS+16 * f.Handling+(if f.NoLocal then 4 else 0)+(if f.AsPublished then 8 else 0)
def Qqh (k:Int) (f:Qa):List UInt8:=Qhk f.Topic++(if k=8 then [UInt8.ofNat (wrap .u8 (optN f)).toNat] else [])
def cdB (c:Int):List UInt8 := [UInt8.ofNat (wrap .u8 c).toNat]
def Z51 (v:Int) (p:Q1):List UInt8:=((Qbq p.ID.toNat 2++Qkx v p.Kind p.Props)++p.Filters.flatMap (Qqh p.Kind))++p.Codes.flatMap cdB
noncomputable def Z4i (v:Int) (p:Q1):List UInt8×Int:=if Qrc v p=0 then (Z51 v p,0) else ([],Qrc v p)
theorem Qfa {T:Type} (g:T->List UInt8) {l:List T} {i:Nat} (hi:i<l.length):(l.take (i+1)).flatMap g=(l.take i).flatMap g++g l[i]:=by
 rw [Bs,Ld hi,List.flatMap_append];simp
theorem Zbq {v k:Int} {cs:List Int}:∀ {l:List Qa},Qlk v k cs l=0->∀ f∈l,Qgu f.Topic=true∧Qnl v k f
 | [],_,f,hf=>nomatch hf
 | a::l,h,f,hf=>by
  have hc:=Qw9 v k cs (l:=a::l) (i:=0) (Nat.zero_lt_succ _);have e:Qlk v k cs (a::l)=Qlk v k cs ((a::l).drop 0):=rfl;rw [e] at h
  cases h1:Qgu a.Topic with
  | false=>rw [hc.1 h1] at h;exact absurd h (by decide)
  | true=>
   by_cases h2:Qnl v k a
   ·rw [hc.2.2 h1 h2] at h
    rcases Ml.1 hf with rfl | hf
    ·exact ⟨h1,h2⟩
    exact Zbq h f hf
   rw [hc.2.1 h1 h2] at h;exact absurd h (by decide)
theorem Z5o {v:Int} {f:Qa} (h:Qnl v 8 f):(f.QoS=0∨f.QoS=1∨f.QoS=2)∧(f.Handling=0∨f.Handling=1∨f.Handling=2):=by
 unfold Qnl at h;rw [Ae (by decide)] at h;refine ⟨by have:=h.1;omega,?_⟩
 by_cases h4:v=4
 ·exact .inl (h.2.1 h4).2.2
 have:=(h.2.2 h4).1;omega
theorem Z8t {v:Int} {f:Qa} (h:Qnl v 8 f) (N:Nat):Jc N f=some (optN f):=by
 obtain ⟨hq,hh⟩:=Z5o h;unfold Jc optN;generalize f.QoS=q at hq;generalize f.Handling=w at hh;generalize f.NoLocal=a;generalize f.AsPublished=b
 rcases hq with rfl | rfl | rfl<;>rcases hh with rfl | rfl | rfl<;>cases a<;>cases b<;>decide
theorem Z91 {v:Int} {f:Qa} (h:Qnl v 8 f) (N:Nat):U4 N f=some (optN f):=by
 obtain ⟨hq,hh⟩:=Z5o h;unfold U4 Gj optN;generalize f.QoS=q at hq;generalize f.Handling=w at hh;generalize f.NoLocal=a;generalize f.AsPublished=b
 rcases hq with rfl | rfl | rfl<;>rcases hh with rfl | rfl | rfl<;>cases a<;>cases b<;>decide
theorem Qsx {s:List UInt8} (h:Qgu s=true):Vf s=true:=by
 unfold Qgu at h;simp only [La] at h;exact h.1.2
theorem Z73 {s:List UInt8} (h:Qgu s=true) (hs:s.length≤2000):Tot (fun N=>Q04 N s) (Qhk s,0):=by
 refine Ar ?_;have ht:=Q9t s;rw [Qsx h] at ht;unfold Q04;refine Au ht ?_;refine Aw (fun h=>nomatch h) (fun _=>?_);refine At (V:=(· = Qhk s)) ?_ (fun b hb => .ret (by rw [hb]));unfold Gd;exact Au (Q17 (s.length:Int) (by omega) 2 (by omega)) (Ax (by rw [Lm,Xr];omega) (.ret rfl))
theorem Z50 {s:List UInt8} (h:Qgu s=true) (hs:s.length≤2000):Tot (fun N=>W1 N s) (Qhk s,0):=by
 refine Ar ?_;have ht:=Q4k s;rw [Qsx h] at ht;unfold W1;refine Au ht ?_;refine Aw (fun h=>nomatch h) (fun _=>?_);exact Au (Q3f (s.length:Int) (by omega) 2 (by omega)) (Ax (by rw [Lm,Xr];omega) (.ret rfl))
theorem Quh (l:List UInt8):(l.map fun b=>(b.toNat:Int)).map (fun n=>UInt8.ofNat n.toNat)=l:=by
 rw [List.map_map];exact (Cq fun x _=>by simp).trans (List.map_id _)
section
variable {v:Int} {p:Q1} (h:Qdi p)
include h
theorem Z4s (l:List Int) (hl:l.length≤9000000):TotP (fun N=>Wo N p N 0 l) (· = ((l.map fun n=>UInt8.ofNat n.toNat)++p.Codes.flatMap cdB,0)):=by
 have hc:=h.codes;refine Qbi (L:=fun N n (q:Int×List Int)=>Wo N p n q.1 q.2) (fun q=>∃ i:Nat,q.1=(i:Int)∧i≤p.Codes.length∧(q.2.map fun n=>UInt8.ofNat n.toNat)=(l.map fun n=>UInt8.ofNat n.toNat)++(p.Codes.take i).flatMap cdB∧q.2.length≤l.length+i) (fun q=>p.Codes.length - q.1.toNat) ?_ (0,l) ⟨0,rfl,Ln _,by simp,Lj _⟩
 rintro ⟨s,o⟩ ⟨i,h1,h2,h3,h4⟩
 simp only at h1 h3 h4
 subst h1;show Stp _ _ _ (fun N n=>cond (Q4 .lss (i:Int) ((Q7 (cI .i64) p.Codes).length:Int)) _ _);rw [Q3,Qf];refine AE (fun g=>?_) (fun g=>AA ?_)
 ·have g:i<p.Codes.length:=by have:=Aa g;omega
  refine AD (Z3 g) ?_;refine AF (by rw [Lm];dsimp only;omega) ?_;dsimp only;rw [w64 _ (by omega)];refine AB (L:=fun N n (q:Int×List Int)=>Wo N p n q.1 q.2) (((i:Int)+1),_) ⟨⟨i+1,by simp only;omega,by omega,?_,by simp only [Lf,Lx];omega⟩,by simp only;omega⟩;rw [Mz,h3,Qfa cdB g,Lq];rfl
 have g:i=p.Codes.length:=by have:=Ac g;omega
 dsimp only;rw [h3,g,Nl]
theorem Z9i (hall:∀ f∈p.Filters,Qgu f.Topic=true∧Qnl v p.Kind f) (l:List Int) (hl:l.length≤5000000):TotP (fun N=>Zq N p N 0 l) (· = (((l.map fun n=>UInt8.ofNat n.toNat)++p.Filters.flatMap (Qqh p.Kind))++p.Codes.flatMap cdB,0)):=by
 have hf:=h.filters;refine Qbi (L:=fun N n (q:Int×List Int)=>Zq N p n q.1 q.2) (fun q=>∃ i:Nat,q.1=(i:Int)∧i≤p.Filters.length∧(q.2.map fun n=>UInt8.ofNat n.toNat)=(l.map fun n=>UInt8.ofNat n.toNat)++(p.Filters.take i).flatMap (Qqh p.Kind)∧q.2.length≤l.length+i * 2010) (fun q=>p.Filters.length - q.1.toNat) ?_ (0,l) ⟨0,rfl,Ln _,by simp,by simp⟩
 rintro ⟨s,o⟩ ⟨i,h1,h2,h3,h4⟩
 simp only at h1 h3 h4
 subst h1;show Stp _ _ _ (fun N n=>cond (Q4 .lss (i:Int) ((Q7 Qa.cells p.Filters).length:Int)) _ _);rw [Q3,Qf];refine AE (fun g=>?_) (fun g=>Az ?_)
 ·have g:i<p.Filters.length:=by have:=Aa g;omega
  have hx:=hall _ (Md g);have ht:=hf.2 _ (Md g);have hn:=Qfa (Qqh p.Kind) g;have hlb:=V9 p.Filters[i].Topic;refine AD (Z3 g) ?_;refine AC (V:=(· = (Qhk p.Filters[i].Topic,0))) ⟨_,rfl,Z73 hx.1 ht⟩ (fun w hw=>?_);subst hw;dsimp only;refine AE (fun gz=>?_) (fun _=>?_)
  ·have:=No gz;omega
  refine AF (by rw [Lm];omega) ?_
  have ei:wrap .i64 ((i:Int)+1)=((i+1:Nat):Int):=by rw [w64 _ (by omega)];omega
  rw [ei,Q9];refine AE (fun g8=>?_) (fun g8=>?_)
  ·have g8:=Aa g8;refine AC (V:=(· = optN p.Filters[i])) ⟨_,rfl,.of fun N=>Z8t (v:=v) (by rw [← g8];exact hx.2) N⟩ (fun w hw=>?_);subst hw;refine AF (by rw [Lm];omega) ?_;refine AB (L:=fun N n (q:Int×List Int)=>Zq N p n q.1 q.2) (_,_) ⟨⟨i+1,rfl,by omega,?_,by simp only [Lf,Lx,Mm];omega⟩,by simp only [Lt];omega⟩;rw [Mz,Mz,h3,Quh,hn];unfold Qqh;rw [Af g8];simp only [Lq];rfl
  have g8:=Ac g8;refine AB (L:=fun N n (q:Int×List Int)=>Zq N p n q.1 q.2) (_,_) ⟨⟨i+1,rfl,by omega,?_,by simp only [Lf,Mm];omega⟩,by simp only [Lt];omega⟩;rw [Mz,h3,Quh,hn];unfold Qqh;rw [Ae g8,Lu,Lq]
 have g:i=p.Filters.length:=by have:=Ac g;omega
 refine (Z4s h o (by omega)).mono fun w hw=>?_;rw [hw,h3,g,Nl]
theorem Z0i (h0:Qrc v p=0):Z1k v p∧Qur v p∧Q83 p.Kind [] p.Props=0∧(∀ f∈p.Filters,Qgu f.Topic=true∧Qnl v p.Kind f):=by
 by_cases a:Z1k v p∧Qur v p
 ·rw [Qpx a] at h0
  by_cases b:Q83 p.Kind [] p.Props≠0
  ·rw [Af b] at h0;exact absurd h0 b
  rw [Ae b] at h0;exact ⟨a.1,a.2,Decidable.byContradiction b,Zbq h0⟩
 unfold Qrc at h0;rw [Ae a] at h0;exact absurd h0 (by decide)
theorem Z92:Tot (fun N=>Q0w N v p) (Z4i v p):=by
 refine Ar ?_;unfold Q0w Z4i;refine Au (Z96 h) ?_;rw [Qp];refine Aw (fun g => .ret (by rw [Ae (Aa g)])) (fun g=>?_);have h0:Qrc v p=0:=Decidable.byContradiction fun x=>Ac g x;obtain ⟨hK,hG,hl0,hall⟩:=Z0i h h0;rw [Af h0];have hk:=hK.2;have hid:=hG.2.1
 haveI:Kd p.Kind:=⟨by omega,by omega⟩
 have b2:=Xr 2 p.ID.toNat;have hw:=Qdl (k:=p.Kind) h.props.len;refine Au (Q17 p.ID (by omega) 2 (by omega)) ?_;unfold Z51 J7;rw [Q9]
 have fin:∀ l:List Int,l.length≤5000000->(l.map fun n=>UInt8.ofNat n.toNat)=Qbq p.ID.toNat 2++Qkx v p.Kind p.Props->TotP (fun N=>Zq N p N 0 l) (· = (((Qbq p.ID.toNat 2++Qkx v p.Kind p.Props)++p.Filters.flatMap (Qqh p.Kind))++p.Codes.flatMap cdB,0)):=fun l h1 h2=>by
  rw [← h2];exact Z9i h hall l h1
 refine Aw (fun g5=>?_) (fun g5=>fin _ (by rw [Mm];omega) ?_)
 ·have g5:=Aa g5
  have et:Qkx v p.Kind p.Props=(Qkb p.Kind p.Props).1:=by unfold Qkx;rw [Ae (by omega)]
  refine Au (Q9p _ h.props.len h.props.txt) ?_;refine Aw (fun gz=>fin _ (by rw [Mm];omega) ?_) (fun _=>?_)
  ·have:(Qkb p.Kind p.Props).1 = []:=Mh.1 (No gz);rw [Quh,et,this,Lu]
  refine Ax (by rw [Lm];omega) (fin _ (by rw [Lf,Mm,Mm];omega) ?_);rw [Mz,Quh,Quh,et]
 have g5:=Ac g5;rw [Quh];unfold Qkx;rw [Af (hK.1.resolve_right g5),Lu]
theorem Z5p (l:List UInt8) (hl:l.length≤9000000):TotP (fun N=>X1 N p N l 0) (· = (l++p.Codes.flatMap cdB,0)):=by
 have hc:=h.codes;refine Qbi (L:=fun N n (q:List UInt8×Int)=>X1 N p n q.1 q.2) (fun q=>∃ i:Nat,q.2=(i:Int)∧i≤p.Codes.length∧q.1=l++(p.Codes.take i).flatMap cdB∧q.1.length≤l.length+i) (fun q=>p.Codes.length - q.2.toNat) ?_ (l,0) ⟨0,rfl,Ln _,by simp,Lj _⟩
 rintro ⟨o,s⟩ ⟨i,h1,h2,h3,h4⟩
 simp only at h1 h3 h4
 subst h1;show Stp _ _ _ (fun N n=>cond (Q4 .lss (i:Int) ((Q7 (cI .i64) p.Codes).length:Int)) _ _);rw [Q3,Qf];refine AE (fun g=>?_) (fun g=>AA ?_)
 ·have g:i<p.Codes.length:=by have:=Aa g;omega
  refine AD (Z3 g) ?_;refine AF (by rw [Lm];simp only [Lx];omega) ?_;dsimp only;rw [w64 _ (by omega)];refine AB (L:=fun N n (q:List UInt8×Int)=>X1 N p n q.1 q.2) (_,((i:Int)+1)) ⟨⟨i+1,by simp only;omega,by omega,?_,by simp only [Lf,Lx];omega⟩,by simp only;omega⟩;rw [h3,Qfa cdB g,Lq];rfl
 have g:i=p.Codes.length:=by have:=Ac g;omega
 dsimp only;rw [h3,g,Nl]
theorem Z9f (hall:∀ f∈p.Filters,Qgu f.Topic=true∧Qnl v p.Kind f) (l:List UInt8) (hl:l.length≤5000000):TotP (fun N=>Zu N p N l 0) (· = ((l++p.Filters.flatMap (Qqh p.Kind))++p.Codes.flatMap cdB,0)):=by
 have hf:=h.filters;refine Qbi (L:=fun N n (q:List UInt8×Int)=>Zu N p n q.1 q.2) (fun q=>∃ i:Nat,q.2=(i:Int)∧i≤p.Filters.length∧q.1=l++(p.Filters.take i).flatMap (Qqh p.Kind)∧q.1.length≤l.length+i * 2010) (fun q=>p.Filters.length - q.2.toNat) ?_ (l,0) ⟨0,rfl,Ln _,by simp,by simp⟩
 rintro ⟨o,s⟩ ⟨i,h1,h2,h3,h4⟩
 simp only at h1 h3 h4
 subst h1;show Stp _ _ _ (fun N n=>cond (Q4 .lss (i:Int) ((Q7 Qa.cells p.Filters).length:Int)) _ _);rw [Q3,Qf];refine AE (fun g=>?_) (fun g=>Az ?_)
 ·have g:i<p.Filters.length:=by have:=Aa g;omega
  have hx:=hall _ (Md g);have ht:=hf.2 _ (Md g);have hn:=Qfa (Qqh p.Kind) g;have hlb:=V9 p.Filters[i].Topic;refine AD (Z3 g) ?_;refine AC (V:=(· = (Qhk p.Filters[i].Topic,0))) ⟨_,rfl,Z50 hx.1 ht⟩ (fun w hw=>?_);subst hw;dsimp only;refine AF (by rw [Lm];omega) ?_
  have ei:wrap .i64 ((i:Int)+1)=((i+1:Nat):Int):=by rw [w64 _ (by omega)];omega
  rw [ei,Q9];refine AE (fun g8=>?_) (fun g8=>?_)
  ·have g8:=Aa g8;refine AD (Z3 g) ?_;refine AC (V:=(· = optN p.Filters[i])) ⟨_,rfl,.of fun N=>Z91 (v:=v) (by rw [← g8];exact hx.2) N⟩ (fun w hw=>?_);subst hw;refine AF (by rw [Lm];simp only [Lf,Lx];omega) ?_;refine AB (L:=fun N n (q:List UInt8×Int)=>Zu N p n q.1 q.2) (_,_) ⟨⟨i+1,rfl,by omega,?_,by simp only [Lf,Lx];omega⟩,by simp only [Lt];omega⟩;rw [h3,hn];unfold Qqh;rw [Af g8];simp only [Lq]
  have g8:=Ac g8;refine AB (L:=fun N n (q:List UInt8×Int)=>Zu N p n q.1 q.2) (_,_) ⟨⟨i+1,rfl,by omega,?_,by simp only [Lf];omega⟩,by simp only [Lt];omega⟩;rw [h3,hn];unfold Qqh;rw [Ae g8,Lu,Lq]
 have g:i=p.Filters.length:=by have:=Ac g;omega
 refine (Z5p h o (by omega)).mono fun w hw=>?_;rw [hw,h3,g,Nl]
theorem Z99:Tot (fun N=>Gn N v p) (Z4i v p):=by
 refine Ar ?_;unfold Gn Z4i;refine Au (Z6g h) ?_;rw [Qp];refine Aw (fun g => .ret (by rw [Ae (Aa g)])) (fun g=>?_);have h0:Qrc v p=0:=Decidable.byContradiction fun x=>Ac g x;obtain ⟨hK,hG,hl0,hall⟩:=Z0i h h0;rw [Af h0];have hk:=hK.2;have hid:=hG.2.1
 haveI:Kd p.Kind:=⟨by omega,by omega⟩
 have b2:=Xr 2 p.ID.toNat;have t1:=Q56 h (v:=v) (k:=p.Kind) h.props;refine Au (Q3f p.ID (by omega) 2 (by omega)) ?_;refine Au (v:=Qkx v p.Kind p.Props) (Qrn hK.1 _ h.props.len h.props.txt) ?_;refine Ax (by rw [Lm];omega) ?_;exact Z9f h hall _ (by rw [Lf];omega)
end
end
end Go.Av
namespace Go.Av
noncomputable section
def Qa8 (v k:Int):Prop:=k<1∨15<k∨(k=15∧v=4)
open Classical in
noncomputable def mqE (v:Int) (p:Q1):Int:=if v=4∨v=5 then (if Qa8 v p.Kind then 8 else if p.Kind≤2 then Qty v p else if p.Kind=3 then Qk5 v p else if p.Kind≤7 then Qsk v p else if p.Kind≤11 then Qrc v p else Qlv v p) else 2
def mqY (v:Int) (p:Q1):List UInt8:=if p.Kind≤2 then Qk7 v p else if p.Kind=3 then Z59 v p else if p.Kind≤7 then Qbq p.ID.toNat 2++Qu6 p.Kind p.Code p.Props else if p.Kind≤11 then Z51 v p else Qu6 p.Kind p.Code p.Props
def Q21 (e:Int) (y:List UInt8):List UInt8×Int:=if e=0 then (y,0) else ([],e)
section
variable {v:Int} {p:Q1} (h:Qdi p)
include h
theorem Qyo:(Qk7 v p).length≤20000000:=by
 have l1:=h.client;have l2:=h.user;have l3:=h.pass;have l4:=h.wtopic;have l5:=h.wpayload;have b1:=fun n=>Xr 1 n;have b2:=fun n=>Xr 2 n;have t1:=Q56 h (v:=v) (k:=p.Kind) h.props;have t2:=Q56 h (v:=v) (k:=16) h.wprops;have d1:=V9 p.Client;have d2:=V9 p.User;have d3:=V9 p.Pass;have d4:=V9 p.Will.Topic;have d5:=V9 p.Will.Payload;unfold Qk7;cases decide (p.Kind=2)<;>cases p.HasWill<;>cases p.HasUser<;>cases p.HasPass<;>simp only [Ai,Ah,Lf,Li,Mc,b1,b2,d1,d2,d3,d4,d5]<;>omega
theorem Qyl:(Z51 v p).length≤20000000:=by
 have hf:=h.filters;have hc:=h.codes;have b2:=Xr 2 p.ID.toNat;have t1:=Q56 h (v:=v) (k:=p.Kind) h.props
 have f1:∀ l:List Qa,(∀ f∈l,f.Topic.length≤2000)->(l.flatMap (Qqh p.Kind)).length≤l.length * 2010:=fun l hl=>by
  induction l with
  | nil=>exact Ln _
  | cons a l ih=>
   have:=ih fun f hf=>hl f (Bi _ hf);have ha:=hl a Bn;have:=V9 a.Topic;rw [Bq,Lf,Li]
   have:(Qqh p.Kind a).length≤2003:=by
    unfold Qqh;rw [Lf];split
    ·simp only [Lx];omega
    simp only [Mc];omega
   omega
 have c1:∀ l:List Int,(l.flatMap cdB).length=l.length:=fun l=>by
  induction l with
  | nil=>rfl
  | cons a l ih=>rw [Bq,Lf,Li,ih];show 1+_=_;omega
 have:=f1 p.Filters hf.2;have:=c1 p.Codes;unfold Z51;rw [Lf,Lf,Lf];omega
theorem Qn5:(mqY v p).length≤20000000:=by
 unfold mqY;split
 ·exact Qyo h
 split
 ·have l1:=h.topic;have l2:=h.payload;have b2:=Xr 2 p.ID.toNat;have d1:=V9 p.Topic;have t1:=Q56 h (v:=v) (k:=3) h.props;unfold Z59
  split<;>simp only [Lf,Mc]<;>omega
 split
 ·have:=Qmh h (k:=p.Kind) (c:=p.Code);have b2:=Xr 2 p.ID.toNat;rw [Lf];omega
 split
 ·exact Qyl h
 have:=Qmh h (k:=p.Kind) (c:=p.Code);omega
theorem Qqb {D:Nat->Option (List UInt8×Int)} {e:Int} {y:List UInt8} (hy:y.length≤20000000) (hD:Tot D (Q21 e y)):TotP (fun N=>((D N).bind fun v1=>some (v1.1,v1.2)).bind fun v10=>cond (Q4 .neq v10.2 0) (some ([],v10.2)) (cond (Q4 .gtr (v10.1.length:Int) 268435455) (some ([],4)) (some (v10.1,0)))) (· = Q21 e y):=by
 refine At (V:=(· = Q21 e y)) (Au hD (.ret rfl)) (fun w hw=>?_);subst hw;unfold Q21;rw [Qp]
 by_cases g:e=0
 ·rw [Af g];refine Aw (fun x=>nomatch x) (fun _=>?_);rw [Qx];exact Aw (fun x=>absurd (Aa x) (by dsimp only;omega)) (fun _ => .ret rfl)
 rw [Ae g];exact Aw (fun _ => .ret rfl) (fun x=>absurd (Decidable.byContradiction fun y=>Ac x y) g)
theorem mq1 (hv:v=4∨v=5) (hk:¬ Qa8 v p.Kind) (h1:p.Kind≤2):Q21 (mqE v p) (mqY v p)=Z4g v p:=by
 unfold Q21 mqE mqY Z4g;rw [Af hv,Ae hk,Af h1,Af h1]
theorem mq3 (hv:v=4∨v=5) (h1:p.Kind=3):Q21 (mqE v p) (mqY v p)=Z4h v p:=by
 have hk:¬ Qa8 v p.Kind:=by unfold Qa8;omega
 unfold Q21 mqE mqY Z4h
 have a:¬ p.Kind≤2:=by omega
 rw [Af hv,Ae hk,Ae a,Ae a,Af h1,Af h1]
theorem mq4 (hv:v=4∨v=5) (h1:4≤p.Kind∧p.Kind≤7):Q21 (mqE v p) (mqY v p)=Z4j v p:=by
 have hk:¬ Qa8 v p.Kind:=by unfold Qa8;omega
 unfold Q21 mqE mqY Z4j
 have a:¬ p.Kind≤2:=by omega
 have b:¬ p.Kind=3:=by omega
 rw [Af hv,Ae hk,Ae a,Ae a,Ae b,Ae b,Af h1.2,Af h1.2]
theorem mq8 (hv:v=4∨v=5) (h1:8≤p.Kind∧p.Kind≤11):Q21 (mqE v p) (mqY v p)=Z4i v p:=by
 have hk:¬ Qa8 v p.Kind:=by unfold Qa8;omega
 unfold Q21 mqE mqY Z4i
 have a:¬ p.Kind≤2:=by omega
 have b:¬ p.Kind=3:=by omega
 have c:¬ p.Kind≤7:=by omega
 rw [Af hv,Ae hk,Ae a,Ae a,Ae b,Ae b,Ae c,Ae c,Af h1.2,Af h1.2]
theorem Zn4 (hv:v=4∨v=5) (hk:¬ Qa8 v p.Kind) (h1:12≤p.Kind):Q21 (mqE v p) (mqY v p)=Z4e v p:=by
 unfold Q21 mqE mqY Z4e
 have a:¬ p.Kind≤2:=by omega
 have b:¬ p.Kind=3:=by omega
 have c:¬ p.Kind≤7:=by omega
 have d:¬ p.Kind≤11:=by omega
 rw [Af hv,Ae hk,Ae a,Ae a,Ae b,Ae b,Ae c,Ae c,Ae d,Ae d]
theorem Z7i (hv:v=4∨v=5) (hk:Qa8 v p.Kind):Q21 (mqE v p) (mqY v p)=([],8):=by
 unfold Q21 mqE;rw [Af hv,Af hk,Ae (by decide)]
theorem Znd (hv:¬ (v=4∨v=5)):Q21 (mqE v p) (mqY v p)=([],2):=by
 unfold Q21 mqE;rw [Ae hv,Ae (by decide)]
theorem Z19 (hv:v=4∨v=5):TotP (fun N=>Q1i N v p false) (· = Q21 (mqE v p) (mqY v p)):=by
 have hl:=Qn5 h (v:=v)
 have c1:¬ Qa8 v p.Kind->p.Kind≤2->Tot (fun N=>Q2s N v p) (Q21 (mqE v p) (mqY v p)):=fun a b=>by rw [mq1 h hv a b];exact Z83 h
 have c3:p.Kind=3->Tot (fun N=>Q2v N v p) (Q21 (mqE v p) (mqY v p)):=fun a=>by rw [mq3 h hv a];exact Z8w h
 have c4:(4≤p.Kind∧p.Kind≤7)->Tot (fun N=>Q7e N v p) (Q21 (mqE v p) (mqY v p)):=fun a=>by rw [mq4 h hv a];exact Z8e h v
 have c8:(8≤p.Kind∧p.Kind≤11)->Tot (fun N=>Q0w N v p) (Q21 (mqE v p) (mqY v p)):=fun a=>by rw [mq8 h hv a];exact Z92 h
 have c12:¬ Qa8 v p.Kind->12≤p.Kind->Tot (fun N=>Q2u N v p) (Q21 (mqE v p) (mqY v p)):=fun a b=>by rw [Zn4 h hv a b];exact Z9u h
 by_cases hr:1≤p.Kind∧p.Kind≤15
 ·have hk:p.Kind=1∨p.Kind=2∨p.Kind=3∨p.Kind=4∨p.Kind=5∨p.Kind=6∨p.Kind=7∨p.Kind=8∨p.Kind=9∨p.Kind=10∨p.Kind=11∨p.Kind=12∨p.Kind=13∨p.Kind=14∨p.Kind=15:=by omega
  unfold Q1i
  rcases hk with e | e | e | e | e | e | e | e | e | e | e | e | e | e | e
  ·have:=Qqb h hl (c1 (by unfold Qa8;omega) (by omega));rw [e];exact this
  ·have:=Qqb h hl (c1 (by unfold Qa8;omega) (by omega));rw [e];exact this
  ·have:=Qqb h hl (c3 e);rw [e];exact this
  ·have:=Qqb h hl (c4 (by omega));rw [e];exact this
  ·have:=Qqb h hl (c4 (by omega));rw [e];exact this
  ·have:=Qqb h hl (c4 (by omega));rw [e];exact this
  ·have:=Qqb h hl (c4 (by omega));rw [e];exact this
  ·have:=Qqb h hl (c8 (by omega));rw [e];exact this
  ·have:=Qqb h hl (c8 (by omega));rw [e];exact this
  ·have:=Qqb h hl (c8 (by omega));rw [e];exact this
  ·have:=Qqb h hl (c8 (by omega));rw [e];exact this
  ·have:=Qqb h hl (c12 (by unfold Qa8;omega) (by omega));rw [e];exact this
  ·have:=Qqb h hl (c12 (by unfold Qa8;omega) (by omega));rw [e];exact this
  ·have:=Qqb h hl (c12 (by unfold Qa8;omega) (by omega));rw [e];exact this
  by_cases h4:v=4
  ·have:=Z7i h hv (show Qa8 v p.Kind from .inr (.inr ⟨e,h4⟩));rw [this,e,h4];exact .ret rfl
  have:=Qqb h hl (c12 (by unfold Qa8;omega) (by omega));rw [e];have e5:v=5:=hv.resolve_left h4;subst e5;exact this
 have:=Z7i h hv (show Qa8 v p.Kind by unfold Qa8;omega);rw [this]
 have f:∀ j:Int,p.Kind≠j->((p.Kind:Int) == j)=false:=fun j x=>by simp;exact x
 unfold Q1i;rw [f 1 (by omega),f 2 (by omega),f 3 (by omega),f 4 (by omega),f 5 (by omega),f 6 (by omega),f 7 (by omega),f 8 (by omega),f 9 (by omega),f 10 (by omega),f 11 (by omega),f 12 (by omega),f 13 (by omega),f 14 (by omega),f 15 (by omega)];exact .ret rfl
theorem Z1n:Tot (fun N=>Q6a N v p) (Q21 (mqE v p) (mqY v p)):=by
 refine Ar ?_;unfold Q6a;rw [Qp,Qp]
 by_cases hv:v=4∨v=5
 ·have e:decide (v≠4)=true->decide (v≠5)=false:=fun x=>by have:=Aa x;exact Ab (by omega)
  refine Aw (fun g=>?_) (fun _=>Z19 h hv);rw [e g];exact Z19 h hv
 rw [Znd h hv];refine Aw (fun g=>?_) (fun g=>absurd (.inl (Decidable.byContradiction fun x=>Ac g x)) hv);rw [Ad (by omega)];exact .ret rfl
theorem Qwq:Tot (fun N=>Q23 N v p) (mqE v p):=by
 refine Ar ?_;unfold Q23;refine Au (Z1n h) (.ret ?_);unfold Q21;split
 ·rename_i g;exact g.symm
 rfl
theorem Z46 (hv:v=4∨v=5) (hk:¬ Qa8 v p.Kind):Tot (fun N=>Wl N v p) (mqE v p):=by
 refine Ar ?_;have e:∀ {x:Int},TotP (fun _=>some x) (· = x) := .ret rfl;unfold Wl mqE;rw [Af hv,Ae hk,X2,Q9,X2,X2];refine Aw (fun g=>?_) (fun g=>?_)
 ·rw [Af (Aa g)];exact Au (Z7h h) e
 rw [Ae (Ac g)];refine Aw (fun g=>?_) (fun g=>?_)
 ·rw [Af (Aa g)];exact Au (Z64 h) e
 rw [Ae (Ac g)];refine Aw (fun g=>?_) (fun g=>?_)
 ·rw [Af (Aa g)];exact Au (Z5m h v) e
 rw [Ae (Ac g)];refine Aw (fun g=>?_) (fun g=>?_)
 ·rw [Af (Aa g)];exact Au (Z6g h) e
 rw [Ae (Ac g)];exact Au (Z5n h) e
theorem Z5c (hv:v=4∨v=5) (hk:¬ Qa8 v p.Kind) (h0:mqE v p=0):Tot (fun N=>V4 N v p) (mqY v p):=by
 refine Ar ?_
 have ep:Q21 (mqE v p) (mqY v p)=(mqY v p,0):=by unfold Q21;rw [Af h0]
 have hkb:=hk;unfold Qa8 at hkb;unfold V4;rw [X2,Q9,X2,X2];refine Aw (fun g=>?_) (fun g=>?_)
 ·have:=Z9b h (v:=v);rw [← mq1 h hv hk (Aa g),ep] at this;exact Au this (.ret rfl)
 have g1:=Ac g;refine Aw (fun g=>?_) (fun g=>?_)
 ·have:=Z82 h (v:=v);rw [← mq3 h hv (Aa g),ep] at this;exact Au this (.ret rfl)
 have g2:=Ac g;refine Aw (fun g=>?_) (fun g=>?_)
 ·have:=Z8x h v;rw [← mq4 h hv ⟨by omega,Aa g⟩,ep] at this;exact Au this (.ret rfl)
 have g3:=Ac g;refine Aw (fun g=>?_) (fun g=>?_)
 ·have:=Z99 h (v:=v);rw [← mq8 h hv ⟨by omega,Aa g⟩,ep] at this;exact Au this (.ret rfl)
 have g4:=Ac g;have:=Z98 h (v:=v);rw [← Zn4 h hv hk (by omega),ep] at this;exact Au this (.ret rfl)
theorem Qxy:Tot (fun N=>Vx N v p) (Q21 (mqE v p) (mqY v p)):=by
 refine Ar ?_;unfold Vx;refine Au (.of fun N=>Qek N v) ?_;refine Aw (fun g => .ret (Znd h (Ac (bN g))).symm) (fun gv=>?_);have hv:=Aa (bP gv);rw [Qf,Qx,Q9,Q9];refine Aw (fun g => .ret (Z7i h hv (.inl (Aa g))).symm) (fun g1=>?_);refine Aw (fun g => .ret (Z7i h hv (.inr (.inl (Aa g)))).symm) (fun g2=>?_);have g1:=Ac g1;have g2:=Ac g2
 have fin:¬ Qa8 v p.Kind->TotP (fun N=>(Wl N v p).bind fun v14=>cond (Q4 .neq v14 0) (some ([],v14)) ((V4 N v p).bind fun v17=>cond (Q4 .gtr (v17.length:Int) 268435455) (some ([],4)) (some (v17,0)))) (· = Q21 (mqE v p) (mqY v p)):=fun hk=>by
  refine Au (Z46 h hv hk) ?_;rw [Qp];unfold Q21;refine Aw (fun g => .ret (by rw [Ae (Aa g)])) (fun g=>?_);have h0:mqE v p=0:=Decidable.byContradiction fun x=>Ac g x;rw [Af h0];refine Au (Z5c h hv hk h0) ?_;have:=Qn5 h (v:=v);rw [Qx];exact Aw (fun x=>absurd (Aa x) (by omega)) (fun _ => .ret rfl)
 refine Aw (fun g5=>?_) (fun g5=>fin (by have:=Ac g5;unfold Qa8;omega));refine Aw (fun g4 => .ret (Z7i h hv (.inr (.inr ⟨Aa g5,Aa g4⟩))).symm) (fun g4=>fin (by have:=Ac g4;unfold Qa8;omega))
theorem Z5x:Tot (fun N=>U2 N v p) (mqE v p):=by
 refine Ar ?_;unfold U2;refine Au (Qxy h) (.ret ?_);unfold Q21;split
 ·rename_i g;exact g.symm
 rfl
end
end
end Go.Av
namespace Go.Av
noncomputable section
def hdF (p:Q1):Int:=if p.Kind=3 then Z07 p else if p.Kind=6∨p.Kind=8∨p.Kind=10 then 2 else 0
def hdB (p:Q1) (n:Nat):List UInt8:=UInt8.ofNat (16 * p.Kind+hdF p).toNat::vb n
section
variable {v:Int} {p:Q1}
theorem Z9y (d r:Bool) (q:Int) (hq:q=0∨q=1∨q=2) (hd:q=0->d=false):(0≤2 * q+(if r then 1 else 0)+(if d then 8 else 0)∧2 * q+(if r then 1 else 0)+(if d then 8 else 0)≤15)∧(∀ N,Q02 N 3 (2 * q+(if r then 1 else 0)+(if d then 8 else 0))=some true)∧(∀ N,Xk N 3 (2 * q+(if r then 1 else 0)+(if d then 8 else 0))=some true):=by
 refine ⟨by cases d<;>cases r<;>simp<;>omega,fun N=>?_,fun N=>?_⟩
 ·have e:∀ x,Q02 N 3 x=Q02 0 3 x:=fun _=>rfl;rw [e]
  rcases hq with rfl | rfl | rfl<;>cases d<;>cases r<;>first | exact absurd (hd rfl) (by decide) | decide
 have e:∀ x,Xk N 3 x=Xk 0 3 x:=fun _=>rfl;rw [e]
 rcases hq with rfl | rfl | rfl<;>cases d<;>cases r<;>first | exact absurd (hd rfl) (by decide) | decide
theorem Z7a (hk:1≤p.Kind∧p.Kind≤15) (hq:p.Kind=3->Qew p):0≤hdF p∧hdF p≤15:=by
 unfold hdF;split
 ·rename_i h3;have:=hq h3;exact (Z9y p.Dup p.Retain p.QoS (by have:=this.1;omega) this.2).1
 split<;>omega
theorem Z1o (N:Nat) (h3:p.Kind≠3):Q4o N p.Kind=some (hdF p):=by
 unfold Q4o hdF;rw [Ae h3,Q9,Q9,Q9]
 by_cases a:p.Kind=6<;>by_cases b:p.Kind=8<;>by_cases c:p.Kind=10<;>simp [a,b,c]
theorem Z0p (N:Nat) (hv:v=4∨v=5) (hk:¬ Qa8 v p.Kind):Q4i N v p.Kind=some true:=by
 unfold Qa8 at hk;unfold Q4i;rw [Q9,Xv,X2,X2,Ad (p:=p.Kind≥1) (by omega)]
 rcases hv with rfl | rfl
 ·show some (decide (p.Kind≤14))=_;rw [Ad (by omega)]
 show some (decide (p.Kind≤15))=_;rw [Ad (by omega)]
theorem Z21 (hv:v=4∨v=5) (hk:¬ Qa8 v p.Kind) (hq:p.Kind=3->Qew p):Tot (fun N=>Q1f N v p) (hdF p,0):=by
 by_cases h3:p.Kind=3
 ·have:=Qy2 (v:=v) (p:=p) ⟨hv,h3⟩;rw [Af (hq h3)] at this;unfold hdF;rw [Af h3];exact this
 refine Ar ?_;unfold Q1f;refine Au (v:=true) (.of fun N=>(Qek N v).trans (by rw [Ad hv])) ?_;refine Aw (fun g=>nomatch g) (fun _=>?_);refine Au (.of fun N=>Z0p N hv hk) ?_;refine Aw (fun g=>nomatch g) (fun _=>?_);rw [Qp];refine Aw (fun _=>?_) (fun g=>absurd (Decidable.byContradiction fun x=>Ac g x) h3);exact Au (.of fun N=>Z1o N h3) (.ret rfl)
theorem Z15 (N:Nat) (hv:v=4∨v=5) (hk:¬ Qa8 v p.Kind):Ul N v p.Kind=some true:=by
 unfold Qa8 at hk;unfold Ul;rw [Xv,Qf,Q9,Q9,Ad (p:=p.Kind≥1) (by omega)]
 by_cases a:p.Kind<15
 ·rw [Ad a];rfl
 rw [Ab a,Ad (p:=p.Kind=15) (by omega),Ad (p:=v=5) (by omega)];rfl
theorem Z36 (hv:v=4∨v=5) (hk:¬ Qa8 v p.Kind) (hq:p.Kind=3->Qew p):Tot (fun N=>Xl N v p) (hdF p,0):=by
 by_cases h3:p.Kind=3
 ·have:=Qve (v:=v) (p:=p) ⟨hv,h3⟩;rw [Af (hq h3)] at this;unfold hdF;rw [Af h3];exact this
 refine Ar ?_;unfold Xl hdF;rw [Ae h3];refine Au (v:=true) (.of fun N=>(Qek N v).trans (by rw [Ad hv])) ?_;refine Aw (fun g=>nomatch g) (fun _=>?_);refine Au (.of fun N=>Z15 N hv hk) ?_;refine Aw (fun g=>nomatch g) (fun _=>?_);rw [Q9,Q9,Q9,Q9];refine Aw (fun g => .ret (by rw [Af (.inl (Aa g))])) (fun g1=>?_);refine Aw (fun g => .ret (by rw [Af (.inr (.inl (Aa g)))])) (fun g2=>?_);refine Aw (fun g => .ret (by rw [Af (.inr (.inr (Aa g)))])) (fun g3=>?_);have g1:=Ac g1;have g2:=Ac g2;have g3:=Ac g3;refine Aw (fun g=>absurd (Aa g) h3) (fun _ => .ret ?_);rw [Ae (by omega)]
theorem Zw1 (k f:Int) (hk:1≤k∧k≤15) (hf:0≤f∧f≤15):wrap .u64 (orI .i64 (Qbp .i64 k 4) f)=wrap .u64 (16 * k+f):=by
 have all:∀ k:Fin 16,∀ f:Fin 16,wrap .u64 (orI .i64 (Qbp .i64 ((k.val:Nat):Int) 4) ((f.val:Nat):Int))=wrap .u64 (16 * ((k.val:Nat):Int)+((f.val:Nat):Int)):=by decide +kernel
 have:=all ⟨k.toNat,by omega⟩ ⟨f.toNat,by omega⟩
 rwa [show ((k.toNat:Nat):Int)=k by omega,show ((f.toNat:Nat):Int)=f by omega] at this
theorem Z4v (hv:v=4∨v=5) (hk:¬ Qa8 v p.Kind) (hq:p.Kind=3->Qew p) (n:Nat) (hn:n≤268435455):Tot (fun N=>Q6u N v ⟨p.Kind,hdF p,(n:Int)⟩) (hdB p n,0):=by
 have hr:1≤p.Kind∧p.Kind≤15:=by unfold Qa8 at hk;omega
 have hb:=Z7a hr hq;have hl:=Qum hn;refine Ar ?_;unfold Q6u;refine Au (v:=0) (Ar ?_) ?_
 ·unfold Q8r;refine Au (v:=true) (.of fun N=>(Qek N v).trans (by rw [Ad hv])) ?_;refine Aw (fun g=>nomatch g) (fun _=>?_);refine Au (.of fun N=>Z0p N hv hk) ?_;refine Aw (fun g=>nomatch g) (fun _=>?_);refine Au (v:=true) (.of fun N=>?_) ?_
  ·by_cases h3:p.Kind=3
   ·have hqq:=hq h3;have:=(Z9y p.Dup p.Retain p.QoS (by have:=hqq.1;omega) hqq.2).2.1 N;show Q02 N p.Kind (hdF p)=_;unfold hdF;rw [Af h3,h3];exact this
   unfold Q02;rw [Qp,Ad h3,Z1o N h3];show some (Q4 .eql (hdF p) (hdF p))=_;rw [Q9,Ad rfl]
  refine Aw (fun g=>nomatch g) (fun _=>?_);refine At (Qwe n hn) (fun w hw=>?_);rw [Q9];exact Aw (fun g=>absurd (Aa g) (by omega)) (fun _ => .ret rfl)
 refine Aw (fun g=>nomatch g) (fun _=>?_);refine Au (Qmb n hn) ?_;have hp:=Q17 (16 * p.Kind+hdF p) (by omega) 1 (by omega);rw [← Zw1 p.Kind (hdF p) hr hb] at hp;refine Au hp ?_;refine Ax (by rw [Lm,Xr];dsimp only;omega) (.ret ?_);show ([UInt8.ofNat ((16 * p.Kind+hdF p).toNat % 256)]++vb n,(0:Int))=_;rw [show (16 * p.Kind+hdF p).toNat % 256=(16 * p.Kind+hdF p).toNat by omega];rfl
theorem Z6x (hv:v=4∨v=5) (hk:¬ Qa8 v p.Kind) (hq:p.Kind=3->Qew p) (n:Nat) (hn:n≤268435455):Tot (fun N=>Jz N v ⟨p.Kind,hdF p,(n:Int)⟩) (hdB p n,0):=by
 have hr:1≤p.Kind∧p.Kind≤15:=by unfold Qa8 at hk;omega
 have hb:=Z7a hr hq;have hl:=Qum hn;refine Ar ?_;unfold Jz;refine Au (v:=0) (Ar ?_) ?_
 ·unfold Q0z;refine Au (v:=true) (.of fun N=>(Qek N v).trans (by rw [Ad hv])) ?_;refine Aw (fun g=>nomatch g) (fun _=>?_);refine Au (.of fun N=>Z15 N hv hk) ?_;refine Aw (fun g=>nomatch g) (fun _=>?_);refine Au (v:=true) (.of fun N=>?_) ?_
  ·by_cases h3:p.Kind=3
   ·have hqq:=hq h3;have:=(Z9y p.Dup p.Retain p.QoS (by have:=hqq.1;omega) hqq.2).2.2 N;show Xk N p.Kind (hdF p)=_;unfold hdF;rw [Af h3,h3];exact this
   unfold Xk hdF;dsimp only;rw [Ae h3];simp only [Q9,Ab h3,Ah]
   by_cases a:p.Kind=6<;>by_cases b:p.Kind=8<;>by_cases c:p.Kind=10<;>simp [a,b,c]
  refine Aw (fun g=>nomatch g) (fun _=>?_);rw [Qf,Qx];refine Aw (fun g=>absurd (Aa g) (by dsimp only;omega)) (fun _=>?_);exact Aw (fun g=>absurd (Aa g) (by dsimp only;omega)) (fun _ => .ret rfl)
 refine Aw (fun g=>nomatch g) (fun _=>?_);refine Au (Qm3 n hn) ?_;have hp:=Q3f (16 * p.Kind+hdF p) (by omega) 1 (by omega)
 have ew:wrap .i64 (wrap .i64 (16 * p.Kind)+hdF p)=16 * p.Kind+hdF p:=by rw [w64 (16 * p.Kind) (by omega),w64 _ (by omega)]
 dsimp only;rw [ew];refine Au hp ?_;refine Ax (by rw [Lm,Xr];omega) (.ret ?_);show ([UInt8.ofNat ((16 * p.Kind+hdF p).toNat % 256)]++vb n,(0:Int))=_;rw [show (16 * p.Kind+hdF p).toNat % 256=(16 * p.Kind+hdF p).toNat by omega];rfl
end
def Z1h (v:Int) (p:Q1):List UInt8:=hdB p (mqY v p).length++mqY v p
section
variable {v:Int} {p:Q1} (h:Qdi p)
include h
theorem Z5v (h0:mqE v p=0):(v=4∨v=5)∧¬ Qa8 v p.Kind∧(p.Kind=3->Qew p):=by
 unfold mqE at h0
 by_cases hv:v=4∨v=5
 ·rw [Af hv] at h0
  by_cases hk:Qa8 v p.Kind
  ·rw [Af hk] at h0;exact absurd h0 (by decide)
  rw [Ae hk] at h0;refine ⟨hv,hk,fun h3=>?_⟩;rw [Ae (by omega),Af h3] at h0;exact (Qww h h0).2.1
 rw [Ae hv] at h0;exact absurd h0 (by decide)
theorem Z3y:Tot (fun N=>Q6y N v p) (Q21 (mqE v p) (Z1h v p)):=by
 refine Ar ?_;unfold Q6y;refine Au (Z1n h) ?_;unfold Q21
 by_cases h0:mqE v p=0
 ·rw [Af h0,Af h0];obtain ⟨hv,hk,hq⟩:=Z5v h h0;have hl:=Qn5 h (v:=v);refine Aw (fun g=>nomatch g) (fun _=>?_);refine Au (Z21 hv hk hq) ?_;refine Aw (fun g=>nomatch g) (fun _=>?_);refine Au (Z4v hv hk hq (mqY v p).length (by omega)) ?_;refine Aw (fun g=>nomatch g) (fun _=>?_);have:=Qum (n:=(mqY v p).length) (by omega);exact Ax (by rw [Lm];unfold hdB;simp only [Li];omega) (.ret rfl)
 rw [Ae h0,Ae h0];refine Aw (fun _ => .ret rfl) (fun g=>?_);rw [Qp] at g;exact absurd (Decidable.byContradiction fun x=>Ac g x) h0
theorem Z3o:Tot (fun N=>Jo N v p) (Q21 (mqE v p) (Z1h v p)):=by
 refine Ar ?_;unfold Jo;refine Au (Qxy h) ?_;unfold Q21
 by_cases h0:mqE v p=0
 ·rw [Af h0,Af h0];obtain ⟨hv,hk,hq⟩:=Z5v h h0;have hl:=Qn5 h (v:=v);refine Aw (fun g=>nomatch g) (fun _=>?_);refine Au (Z36 hv hk hq) ?_;refine Au (Z6x hv hk hq (mqY v p).length (by omega)) ?_;have:=Qum (n:=(mqY v p).length) (by omega);exact Ax (by rw [Lm];unfold hdB;simp only [Li];omega) (.ret rfl)
 rw [Ae h0,Ae h0];refine Aw (fun _ => .ret rfl) (fun g=>?_);rw [Qp] at g;exact absurd (Decidable.byContradiction fun x=>Ac g x) h0
end
end
end Go.Av
namespace Go.Av
noncomputable section
def SmP (l:List Q6):Prop:=∀ q∈l,q.Text.length≤300∧q.Value.length≤300
structure Zxk (p:Q1):Prop where
 props:SmP p.Props
 wprops:SmP p.Will.Props
section
variable {v:Int} {p:Q1} (h:Qdi p) (hs:Zxk p)
include h hs
end
end
end Go.Av
namespace Go.Av
noncomputable section
def Qkd (e:Qd):Prop:=e.Packet=zP∧e.Msg=zM∧e.Frame=zF
structure PubM (e:Qd):Prop where
 qos:0≤e.QoS∧e.QoS≤2
 id:0≤e.ID∧e.ID≤65535
 ack:e.ID≠0↔(e.QoS=1∨e.QoS=2)
 dup:e.Dup=true->(e.QoS=1∨e.QoS=2)
 props:e.Props ≠ []->e.Proto=2
 typ:e.Type'=0
 hops:e.Hops = []
 ch:e.Channel=0
 bare:Qkd e
open Classical in
noncomputable def Qeb (e:Qd):Int:=if e.Kind=1 then (if Q0u e.Topic=true then (if PubM e then (if Q83 3 [] e.Props=0 then 0 else 9) else 2) else 10) else 2
section
variable {e:Qd}
theorem Z9k (hpk:Qy7 e.Packet) (hs:Q2.szs e.Frame.Values<700000000):TotP (fun N=>Q6t N e) (fun v=>v=true↔Qkd e):=by
 unfold Q6t;refine At (Q25 e.Packet zP hpk) (fun v hv=>?_);refine Aw (fun g=>?_) (fun g => .ret ⟨fun h=>(nomatch h),fun x=>by have:=hv.2 x.1;rw [g] at this;cases this⟩);refine Aw (fun g2=>?_) (fun g2 => .ret ⟨fun h=>(nomatch h),fun x=>absurd (g2.symm.trans ((Qu3 e.Msg zM).2 x.2.1)) Lk⟩);exact At (V:=fun v=>v=true↔e.Frame=zF) ⟨decide (e.Frame=zF),decide_eq_true_iff,800000000,fun N hN=>Qpf hN _ _ hs⟩ (fun w hw => .ret ⟨fun h=>⟨hv.1 g,(Qu3 e.Msg zM).1 g2,hw.1 h⟩,fun x=>hw.2 x.2.2⟩)
theorem Z6e (hpk:Qy7 e.Packet) (hs:Q2.szs e.Frame.Values<700000000):TotP (fun N=>Ys N e) (fun v=>v=true↔Qkd e):=by
 unfold Ys;refine At (Jt e.Packet zP hpk) (fun v hv=>?_);refine Aw (fun g=>?_) (fun g => .ret ⟨fun h=>(nomatch h),fun x=>by have:=hv.2 x.1;rw [g] at this;cases this⟩);refine Aw (fun g2=>?_) (fun g2 => .ret ⟨fun h=>(nomatch h),fun x=>absurd (g2.symm.trans ((Qu3 e.Msg zM).2 x.2.1)) Lk⟩);exact At (V:=fun v=>v=true↔e.Frame=zF) ⟨decide (e.Frame=zF),decide_eq_true_iff,800000000,fun N hN=>Qhh hN _ _ hs⟩ (fun w hw => .ret ⟨fun h=>⟨hv.1 g,(Qu3 e.Msg zM).1 g2,hw.1 h⟩,fun x=>hw.2 x.2.2⟩)
theorem Qcx {T:Type} {l:List T} {c:T->List PV}:Q4 .gtr ((Q7 c l).length:Int) 0=decide (l ≠ []):=by
 rw [Q3,Qx]
 cases l with
 | nil=>rfl
 | cons a l=>rw [Ad (by simp only [Li];omega),Ad (by exact List.cons_ne_nil _ _)]
variable (hp:e.Proto=1∨e.Proto=2) (ht:e.Topic.length≤maxLen) (hpr:OkP e.Props) (hpk:Qy7 e.Packet) (hs:Q2.szs e.Frame.Values<700000000)
include hp ht hpr hpk hs
theorem Zsv:Tot (fun N=>Q1y N e) (Qeb e):=by
 refine Ar ?_
 have no:e.Kind=1->Q0u e.Topic=true->¬ PubM e->2=Qeb e:=fun a b c=>by unfold Qeb;rw [Af a,Af b,Ae c]
 have j4:e.Kind=1->Q0u e.Topic=true->(Qkd e->PubM e)->TotP (fun N=>G7 N e) (· = Qeb e):=fun a b c=>by
  unfold G7;refine At (Z9k hpk hs) (fun v hv=>?_);refine Aw (fun g => .ret (no a b fun x=>by have:=hv.2 x.bare;rw [bN g] at this;cases this)) (fun g=>?_);have hM:=c (hv.1 (bP g));refine Au (Qit e.Props hpr.len hpr.txt) ?_;rw [Qp];unfold Qeb;rw [Af a,Af b,Af hM];exact Aw (fun g => .ret (by rw [Ae (Aa g)])) (fun g => .ret (by rw [Af (Decidable.byContradiction fun x=>Ac g x)]))
 have j3:e.Kind=1->Q0u e.Topic=true->(e.Type'=0->e.Hops = []->e.Channel=0->Qkd e->PubM e)->TotP (fun N=>Gb N e) (· = Qeb e):=fun a b c=>by
  unfold Gb;simp only [Q9,Qp,Qcx,Qmy,Ll];refine Aw (fun h=>absurd (Aa h) (by omega)) (fun _=>?_);refine Aw (fun g => .ret (no a b fun x=>Aa g x.typ)) (fun g1=>?_);refine Aw (fun g => .ret (no a b fun x=>Aa g x.hops)) (fun g2=>?_);refine Aw (fun g => .ret (no a b fun x=>by rw [x.ch] at g;exact absurd g (by decide))) (fun g3=>?_);have g1:e.Type'=0:=Decidable.byContradiction fun x=>Ac g1 x;have g2:e.Hops = []:=Decidable.byContradiction fun x=>Ac g2 x;refine Aw (fun g4=>?_) (fun g4=>j4 a b (c g1 g2 (Decidable.byContradiction fun x=>Ac g4 x)));have g4:=Aa g4;exact Aw (fun _ => .ret (no a b fun x=>g4 x.ch)) (fun h=>absurd (Ac h) (by omega))
 have j2:e.Kind=1->Q0u e.Topic=true->((e.Props ≠ []->e.Proto=2)->e.Type'=0->e.Hops = []->e.Channel=0->Qkd e->PubM e)->TotP (fun N=>U5 N e) (· = Qeb e):=fun a b c=>by
  unfold U5;simp only [Qp,Qcx];refine Aw (fun g=>?_) (fun g=>j3 a b (c fun x=>absurd x (Ac g)));have g:=Aa g;exact Aw (fun g2 => .ret (no a b fun x=>Aa g2 (x.props g))) (fun g2=>j3 a b (c fun _=>Decidable.byContradiction fun x=>Ac g2 x))
 have j1:∀ c:Bool,(c=true↔(e.QoS=1∨e.QoS=2))->e.Kind=1->Q0u e.Topic=true->0≤e.QoS∧e.QoS≤2->TotP (fun N=>G5 N e c) (· = Qeb e):=fun c hc a b hq=>by
  unfold G5;simp only [Q9,Qp,Qmy,Ll];refine Aw (fun g => .ret (no a b fun x=>by simp [x.id.1,x.id.2] at g)) (fun g1=>?_)
  have g1:0≤e.ID∧e.ID≤65535:=by simpa using g1
  refine Aw (fun g => .ret (no a b fun x=>?_)) (fun g2=>?_)
  ·have e1:decide (e.ID≠0)=c:=by
    cases c with
    | true=>exact Ad (x.ack.2 (hc.1 rfl))
    | false=>exact Ab fun y=>by have:=hc.2 (x.ack.1 y);cases this
   rw [e1] at g;simp at g
  have g2:c=decide (e.ID≠0):=eq_of_beq (bP g2)
  have ha:e.ID≠0↔(e.QoS=1∨e.QoS=2):=by rw [← hc,g2,decide_eq_true_iff]
  refine Aw (fun gd=>?_) (fun gd=>j2 a b fun h1 h2 h3 h4 h5=>⟨hq,g1,ha,fun x=>(by rw [gd] at x;cases x),h1,h2,h3,h4,h5⟩);refine Aw (fun gc=>?_) (fun gc=>j2 a b fun h1 h2 h3 h4 h5=>⟨hq,g1,ha,fun _=>hc.1 (bP gc),h1,h2,h3,h4,h5⟩);exact Aw (fun _ => .ret (no a b fun x=>by have:=hc.2 (x.dup gd);rw [bN gc] at this;cases this)) (fun h=>absurd (Aa (bP h)) (by omega))
 have j0:∀ c:Bool,(c=true↔(e.QoS=1∨e.QoS=2))->TotP (fun N=>G9 N e c) (· = Qeb e):=fun c hc=>by
  unfold G9;simp only [Qzm,Qmy,Ll,Q9,Qp];refine Aw (fun g=>absurd (Ac (bN g)) (by omega)) (fun _=>?_);refine Aw (fun g => .ret (by unfold Qeb;rw [Ae (Aa g)])) (fun g1=>?_);have g1:e.Kind=1:=Decidable.byContradiction fun x=>Ac g1 x;refine Au (Qfg _ ht) ?_;refine Aw (fun g => .ret (by unfold Qeb;rw [Af g1,Ae (by rw [bN g];decide)])) (fun gn=>?_);refine Aw (fun g=>Aw (fun h=>absurd (Aa h) (by omega)) (fun _ => .ret (no g1 (bP gn) fun x=>by simp [x.qos.1,x.qos.2] at g))) (fun g2=>?_);exact j1 c hc g1 (bP gn) (by simpa using g2)
 unfold Q1y;rw [Q9,Q9];exact Aw (fun g=>j0 true ⟨fun _ => .inl (Aa g),fun _=>rfl⟩) (fun g=>j0 _ ⟨fun x => .inr (Aa x),fun x=>Ad (x.resolve_left (Ac g))⟩)
theorem Ztc:Tot (fun N=>Ud N e) (Qeb e):=by
 refine Ar ?_
 have no:e.Kind=1->Q0u e.Topic=true->¬ PubM e->2=Qeb e:=fun a b c=>by unfold Qeb;rw [Af a,Af b,Ae c]
 have j7:e.Kind=1->Q0u e.Topic=true->∀ s:Bool,(s=false↔PubM e)->TotP (fun N=>Zb N e s) (· = Qeb e):=fun a b s hs=>by
  unfold Zb;refine Aw (fun g => .ret (no a b fun x=>by rw [hs.2 x] at g;cases g)) (fun g=>?_);refine Au (Qg0 e.Props hpr.len hpr.txt) ?_;rw [Qp];unfold Qeb;rw [Af a,Af b,Af (hs.1 g)];exact Aw (fun g => .ret (by rw [Ae (Aa g)])) (fun g => .ret (by rw [Af (Decidable.byContradiction fun x=>Ac g x)]))
 have j4:e.Kind=1->Q0u e.Topic=true->∀ s:Bool,(s=true->¬ PubM e)->(s=false->e.Channel=0->Qkd e->PubM e)->TotP (fun N=>Qw N e s) (· = Qeb e):=fun a b s h1 h2=>by
  unfold Qw;simp only [Qf,Qx,Qp];refine Aw (fun g => .ret (no a b (h1 g))) (fun g=>?_);have t7:¬ PubM e->TotP (fun N=>Zb N e true) (· = Qeb e):=fun x=>j7 a b true ⟨fun y=>(nomatch y),fun y=>absurd y x⟩;refine Aw (fun g=>t7 fun x=>by have:=Aa g;have:=x.ch;omega) (fun g3=>?_);refine Aw (fun g=>t7 fun x=>by have:=Aa g;have:=x.ch;omega) (fun g4=>?_);refine Aw (fun g5=>?_) (fun g5=>?_)
  ·exact Aw (fun _=>t7 fun x=>Aa g5 x.ch) (fun h=>absurd (Ac h) (by omega))
  refine At (Z6e hpk hs) (fun v hv=>j7 a b _ ⟨fun x=>h2 g (Decidable.byContradiction fun y=>Ac g5 y) (hv.1 (bP x)),fun x=>by rw [hv.2 x.bare];rfl⟩)
 have j6:e.Kind=1->Q0u e.Topic=true->∀ s:Bool,(s=true->¬ PubM e)->(s=false->e.Type'=0->e.Hops = []->e.Channel=0->Qkd e->PubM e)->TotP (fun N=>Xn N (Qw N e) e s) (· = Qeb e):=fun a b s h1 h2=>by
  unfold Xn;refine Aw (fun g=>j4 a b s h1 fun x=>by rw [g] at x;cases x) (fun g=>?_);refine At (V:=fun v=>v=true↔(e.Type'=0∧e.Hops = [])) ?_ (fun v hv=>j4 a b _ (fun x y=>by rw [hv.2 ⟨y.typ,y.hops⟩] at x;cases x) (fun x=>h2 g (hv.1 (bP x)).1 (hv.1 (bP x)).2));unfold Q11;rw [Qp,Q9];refine Aw (fun _=>?_) (fun h=>absurd (Decidable.byContradiction fun x=>Ac h x) (by omega));refine Aw (fun g => .ret ?_) (fun g => .ret ⟨fun x=>(nomatch x),fun x=>absurd x.1 (Ac g)⟩);rw [Q9,Q3,decide_eq_true_iff];exact ⟨fun x=>⟨Aa g,Mh.1 (by omega)⟩,fun x=>by rw [x.2];rfl⟩
 have j5:e.Kind=1->Q0u e.Topic=true->∀ s:Bool,(s=true->¬ PubM e)->(s=false->(e.Props ≠ []->e.Proto=2)->e.Type'=0->e.Hops = []->e.Channel=0->Qkd e->PubM e)->TotP (fun N=>Yu N (Qw N e) e s) (· = Qeb e):=fun a b s h1 h2=>by
  unfold Yu;simp only [Qcx,Qp];refine Aw (fun g=>j4 a b s h1 fun x=>by rw [g] at x;cases x) (fun g=>?_);refine Aw (fun gp=>?_) (fun gp=>j6 a b false (fun x=>(nomatch x)) fun _=>h2 g fun x=>absurd x (Ac gp));have gp:=Aa gp;exact j6 a b _ (fun x y=>Aa x (y.props gp)) (fun x=>h2 g fun _=>Decidable.byContradiction fun y=>Ac x y)
 have j3:∀ c:Bool,(c=true↔(e.QoS=1∨e.QoS=2))->e.Kind=1->Q0u e.Topic=true->∀ s:Bool,(s=true->¬ PubM e)->(s=false->(e.Dup=true->(e.QoS=1∨e.QoS=2))->(e.Props ≠ []->e.Proto=2)->e.Type'=0->e.Hops = []->e.Channel=0->Qkd e->PubM e)->TotP (fun N=>Z9 N e c s) (· = Qeb e):=fun c hc a b s h1 h2=>by
  unfold Z9;rw [Qp];refine Aw (fun g => .ret (no a b (h1 g))) (fun g=>?_);refine Aw (fun gd=>?_) (fun gd=>j5 a b false (fun x=>(nomatch x)) fun _=>h2 g fun x=>by rw [gd] at x;cases x);refine Aw (fun gc=>j5 a b _ (fun x y=>by have:=hc.2 (y.dup gd);rw [bN gc] at this;cases this) fun x=>absurd (Ac x) (by omega)) (fun gc=>j5 a b false (fun x=>(nomatch x)) fun _=>h2 g fun _=>hc.1 (bP gc))
 have j2:∀ c:Bool,(c=true↔(e.QoS=1∨e.QoS=2))->e.Kind=1->Q0u e.Topic=true->TotP (fun N=>Xo N e 0 c) (· = Qeb e):=fun c hc a b=>by
  unfold Xo;simp only [Qf,Qx,Qp];have t3:¬ PubM e->TotP (fun N=>Z9 N e c true) (· = Qeb e):=fun x=>j3 c hc a b true (fun _=>x) (fun y=>(nomatch y));refine Aw (fun g=>t3 fun x=>by have:=Aa g;have:=x.qos;omega) (fun g1=>?_);refine Aw (fun g=>t3 fun x=>by have:=Aa g;have:=x.qos;omega) (fun g2=>?_);refine Aw (fun g=>t3 fun x=>by have:=Aa g;have:=x.id;omega) (fun g3=>?_);refine Aw (fun g=>t3 fun x=>by have:=Aa g;have:=x.id;omega) (fun g4=>?_);have g1:=Ac g1;have g2:=Ac g2;have g3:=Ac g3;have g4:=Ac g4;refine j3 c hc a b _ (fun g x=>?_) (fun g h1 h2 h3 h4 h5 h6=>?_)
  ·have e1:decide (e.ID≠0)=c:=by
    cases c with
    | true=>exact Ad (x.ack.2 (hc.1 rfl))
    | false=>exact Ab fun y=>by have:=hc.2 (x.ack.1 y);cases this
   rw [e1] at g;simp at g
  have g:c=decide (e.ID≠0):=(eq_of_beq (bP g)).symm
  have ha:e.ID≠0↔(e.QoS=1∨e.QoS=2):=by rw [← hc,g,decide_eq_true_iff]
  exact ⟨⟨by omega,by omega⟩,⟨by omega,by omega⟩,ha,h1,h2,h3,h4,h5,h6⟩
 have j0:∀ s:Bool,(s=true↔e.Kind≠1)->TotP (fun N=>Yv N e s) (· = Qeb e):=fun s hs=>by
  unfold Yv;rw [Q9];refine Aw (fun g => .ret (by unfold Qeb;rw [Ae (hs.1 g)])) (fun g=>?_)
  have a:e.Kind=1:=Decidable.byContradiction fun x=>by rw [hs.2 x] at g;cases g
  refine Au (Qfi _ ht) ?_;refine Aw (fun g => .ret (by unfold Qeb;rw [Af a,Ae (by rw [bN g];decide)])) (fun gn=>?_);refine Aw (fun g=>absurd (Aa g) (by omega)) (fun _=>?_);unfold Wy;rw [Q9,Q9];exact Aw (fun g=>j2 true ⟨fun _ => .inl (Aa g),fun _=>rfl⟩ a (bP gn)) (fun g=>j2 _ ⟨fun x => .inr (Aa x),fun x=>Ad (x.resolve_left (Ac g))⟩ a (bP gn))
 unfold Ud;rw [Qf,Qx,Qp];refine Aw (fun g=>absurd (Aa g) (by omega)) (fun _=>?_);refine Aw (fun g=>absurd (Aa g) (by omega)) (fun _=>?_);exact j0 _ decide_eq_true_iff
end
end
end Go.Av
namespace Go.Av
noncomputable section
def evO (pr:Int) (p:Q1):Qd:=⟨pr,2,[],[],0,false,false,0,[],0,[],0,p,zM,zF⟩
def evM (pr:Int) (p:Q1):Qd:=⟨pr,1,p.Topic,p.Payload,p.QoS,p.Retain,p.Dup,p.ID,p.Props,0,[],0,zP,zM,zF⟩
def pkM (e:Qd):Q1:=⟨3,e.Dup,e.Retain,e.QoS,e.ID,e.Topic,e.Payload,false,0,[],false,[],false,[],false,(⟨[],[],0,false,[]⟩:Y5),false,0,[],[],e.Props⟩
def pkE (e:Qd):Q1:=if e.Kind=1 then pkM e else e.Packet
open Classical in
noncomputable def Qy3 (e:Qd):Int:=if e=evO e.Proto e.Packet then (if e.Packet.Kind=3 then 2 else mqE (3+e.Proto) e.Packet) else 2
noncomputable def evX (e:Qd):Int:=if e.Kind=1 then Qeb e else if e.Kind=2 then Qy3 e else 2
noncomputable def frX (e:Qd):Int×Q1×Int:=if e.Proto=1∨e.Proto=2 then (if evX e=0 then (3+e.Proto,pkE e,0) else (0,zP,evX e)) else (0,zP,2)
noncomputable def toX (v:Int) (p:Q1):Qd×Int:=if mqE v p=0 then (if p.Kind=3 then (if p.Topic = [] then (zE,11) else (evM (v - 3) p,0)) else (evO (v - 3) p,0)) else (zE,mqE v p)
def Z4f:Yz:=⟨1048576,32⟩
theorem Z4l {e:Qd} (h:LE e):Qdi (pkM e):=by
 have:=h.topic;have:=h.payload;have hp:=h.props;have hl:=hp.len;have:=ml2;unfold pkM;refine ⟨⟨Ln _,Ln _,by show e.Props.length≤_;omega,Ln _⟩,hp,⟨Ln _,fun x hx=>(nomatch hx)⟩,by assumption,by assumption,Ln _,Ln _,Ln _,Ln _,Ln _,Ln _,Ln _,fun x hx=>(nomatch hx)⟩
theorem Qw1 {e:Qd} (h:LE e):Qdi (pkE e):=by
 unfold pkE;split
 ·exact Z4l h
 exact h.pk
theorem Z22 {e:Qd} (hk:e.Kind=1) (h:PubM e):e=evM e.Proto (pkM e):=by
 have h1:=h.typ;have h2:=h.hops;have h3:=h.ch;obtain ⟨h4,h5,h6⟩:=h.bare;unfold evM pkM;cases e
 simp_all
section
variable {e:Qd} (h:LE e) (hp:e.Proto=1∨e.Proto=2)
include h hp
theorem Zvp (hk:e.Kind=2):Tot (fun N=>Q5d N e Z4f) (Qy3 e):=by
 refine Ar ?_;have hpe:=h.pk
 have key:∀ v,v=3+e.Proto->TotP (fun N=>(Q18 N (⟨e.Proto,e.Kind,[],[],0,false,false,0,[],0,[],0,e.Packet,zM,zF⟩:Qd) e).bind fun v2=>cond (!v2) (some (2:Int)) (cond (Q4 .eql e.Packet.Kind 3) (some 2) ((Q23 N v e.Packet).bind fun v6=>some v6))) (· = Qy3 e):=fun v hv=>by
  refine At (Qnc _ e ⟨Ln _,Ln _,hpe.l,by show Q2.szs []<700000000;decide⟩) (fun b hb=>?_)
  have hb:b=true↔e=evO e.Proto e.Packet:=by
   rw [hb,hk];exact ⟨fun x=>x.symm,fun x=>x.symm⟩
  unfold Qy3;refine Aw (fun g => .ret (by rw [Ae fun x=>by rw [hb.2 x] at g;cases g])) (fun g=>?_);rw [Af (hb.1 (bP g)),Q9];refine Aw (fun g => .ret (by rw [Af (Aa g)])) (fun g=>?_);rw [Ae (Ac g),← hv];exact Au (Qwq hpe) (.ret rfl)
 unfold Q5d;rw [Q9,Q9];refine Aw (fun g=>key 4 (by have:=Aa g;omega)) (fun g=>?_);exact Aw (fun g=>key 5 (by have:=Aa g;omega)) (fun g2=>absurd hp (by have:=Ac g;have:=Ac g2;omega))
theorem Zw2 (hk:e.Kind=2):Tot (fun N=>Jn N e Z4f) (Qy3 e):=by
 refine Ar ?_;have hpe:=h.pk;have ho:=h.oks;unfold Jn;refine At (Qfu _ _ ⟨ho.props,Ln _,Qdn,by show Q2.szs []<700000000;decide⟩) (fun b hb=>?_)
 have no:e≠evO e.Proto e.Packet->2=Qy3 e:=fun x=>by unfold Qy3;rw [Ae x]
 refine Aw (fun g => .ret (no fun x=>by rw [hb.2 (by rw [x];rfl)] at g;cases g)) (fun g=>?_);have hx:=hb.1 (bP g);refine Au (v:=3+e.Proto) (.of fun _=>by rcases hp with x | x<;>rw [x]<;>rfl) ?_;rw [Qp,Ad (show 3+e.Proto≠0 by omega)];refine Aw (fun _=>?_) (fun g=>nomatch g);refine At (Z6e Qdn ho.fr) (fun c hc=>?_);refine Aw (fun g => .ret (no fun x=>?_)) (fun g=>?_)
 ·rw [hc.2 ⟨rfl,by rw [x];rfl,by rw [x];rfl⟩] at g;cases g
 have hbr:=hc.1 (bP g);rw [Qcx,Q9];refine Aw (fun g => .ret (no fun x=>Aa g (by rw [x];rfl))) (fun g=>?_);have hh:e.Hops = []:=Decidable.byContradiction fun x=>Ac g x
 have he:e=evO e.Proto e.Packet:=by
  obtain ⟨_,b1,b2⟩:=hbr;have b1:e.Msg=zM:=b1;have b2:e.Frame=zF:=b2;simp only [Qd.mk.injEq] at hx;unfold evO;cases e
  simp_all
 unfold Qy3;rw [Af he];refine Aw (fun g => .ret (by rw [Af (Aa g)])) (fun g=>?_);rw [Ae (Ac g)];exact Au (Z5x hpe) (.ret rfl)
theorem Z5r:Tot (fun N=>Q54 N e Z4f) (evX e):=by
 refine Ar ?_;have:=h.topic;have:=ml2;have:=h.payload;unfold Q54 evX;refine Au (v:=true) (.of fun _=>rfl) ?_;refine Aw (fun g=>nomatch g) (fun _=>?_);rw [Q9,Q9];refine Aw (fun g=>?_) (fun g=>?_)
 ·rw [Af (Aa g)];refine Au (Zsv hp (by omega) h.props h.pk.l h.oks.fr) ?_;rw [Qp,Qx];refine Aw (fun _ => .ret rfl) (fun g2=>?_);exact Aw (fun g3=>by have:(e.Payload.length:Int)>1048576:=Aa g3;omega) (fun _ => .ret (Decidable.byContradiction fun x=>Ac g2 fun y=>x y.symm))
 rw [Ae (Ac g)];refine Aw (fun g=>?_) (fun g => .ret (by rw [Ae (Ac g)]));rw [Af (Aa g)];exact Au (Zvp h hp (Aa g)) (.ret rfl)
theorem Z6b:Tot (fun N=>Js N e Z4f) (evX e):=by
 refine Ar ?_;have:=h.topic;have:=ml2;have:=h.payload;unfold Js evX;refine Au (v:=true) (.of fun _=>rfl) ?_;refine Aw (fun g=>nomatch g) (fun _=>?_);rw [Q9,Q9];refine Aw (fun g=>?_) (fun g=>?_)
 ·rw [Af (Aa g)];refine Au (Ztc hp (by omega) h.props h.pk.l h.oks.fr) ?_;rw [Q9,Qx];refine Aw (fun _=>?_) (fun _ => .ret rfl);exact Aw (fun g3=>by have:(e.Payload.length:Int)>1048576:=Aa g3;omega) (fun _ => .ret rfl)
 rw [Ae (Ac g)];refine Aw (fun g=>?_) (fun g => .ret (by rw [Ae (Ac g)]));rw [Af (Aa g)];exact Au (Zw2 h hp (Aa g)) (.ret rfl)
end
theorem Z5q {e:Qd} (h0:evX e=0):e.Frame.Values = []:=by
 unfold evX at h0
 by_cases hk:e.Kind=1
 ·rw [Af hk] at h0;unfold Qeb at h0;rw [Af hk] at h0
  by_cases hn:Q0u e.Topic=true
  rotate_left
  ·rw [Ae hn] at h0;exact absurd h0 (by decide)
  rw [Af hn] at h0
  by_cases hM:PubM e
  ·rw [hM.bare.2.2];rfl
  rw [Ae hM] at h0;exact absurd h0 (by decide)
 rw [Ae hk] at h0
 by_cases hk2:e.Kind=2
 rotate_left
 ·rw [Ae hk2] at h0;exact absurd h0 (by decide)
 rw [Af hk2] at h0;unfold Qy3 at h0
 by_cases he:e=evO e.Proto e.Packet
 ·rw [he];rfl
 rw [Ae he] at h0;exact absurd h0 (by decide)
theorem Z58 {e:Qd} (h:LE e):Tot (fun N=>Q1z N e) (frX e):=by
 refine Ar ?_;unfold Q1z frX
 by_cases hp:e.Proto=1∨e.Proto=2
 ·rw [Af hp];refine Au (v:=(3+e.Proto,true)) (.of fun _=>by rcases hp with x | x<;>rw [x]<;>rfl) ?_;refine Aw (fun g=>nomatch g) (fun _=>?_);refine Au (v:=Z4f) (.of fun _=>rfl) ?_;refine Au (Z5r h hp) ?_;rw [Qp,Q9];refine Aw (fun g => .ret (by rw [Ae (Aa g)];rfl)) (fun g=>?_);have h0:evX e=0:=Decidable.byContradiction fun x=>Ac g x;rw [Af h0];have hl1:=h.props.len;have hl2:e.Hops.length≤30:=h.dg.hops;have hcp:=Qcp e (by omega) (by omega) h.pk (Z5q h0);unfold pkE;refine Aw (fun g=>?_) (fun g=>?_)
  ·rw [Af (Aa g)];refine Au hcp ?_;exact Au (v:=pkM e) (.of fun _=>rfl) (.ret rfl)
  rw [Ae (Ac g)];refine Au hcp ?_;exact Au (v:=e.Packet) (.of fun _=>rfl) (.ret rfl)
 rw [Ae hp];refine Au (v:=(0,false)) (.of fun N=>?_) ?_
 ·unfold U6;rw [Q9,Q9,Ab (fun x=>hp (.inl x)),Ab (fun x=>hp (.inr x))];rfl
 exact Aw (fun _ => .ret rfl) (fun g=>nomatch g)
theorem toO {v:Int} {p:Q1} (h:Qdi p):Tot (fun N=>Q3l N v p) (toX v p):=by
 refine Ar ?_;have h3:=h.props.len;unfold Q3l toX
 by_cases hv:v=4∨v=5
 ·refine Au (v:=(v - 3,true)) (.of fun _=>by rcases hv with x | x<;>rw [x]<;>rfl) ?_;refine Aw (fun g=>nomatch g) (fun _=>?_);refine Au (Qwq h) ?_;rw [Qp,Q9,Gz];refine Aw (fun g => .ret (by rw [Ae (Aa g)];rfl)) (fun g=>?_);rw [Af (Decidable.byContradiction fun x=>Ac g x)];refine Aw (fun g=>?_) (fun g=>?_)
  ·rw [Af (Aa g)];refine Aw (fun g => .ret (by rw [Af (Aa g)];rfl)) (fun g=>?_);rw [Ae (Ac g)];refine Au (v:=evM (v - 3) p) (.of fun _=>rfl) ?_;exact Au (Qcp (evM (v - 3) p) (by show p.Props.length≤_;omega) (Ln _) Z5b rfl) (.ret rfl)
  rw [Ae (Ac g)];refine Au (v:=evO (v - 3) p) (.of fun _=>rfl) ?_;exact Au (Qcp (evO (v - 3) p) (Ln _) (Ln _) h rfl) (.ret rfl)
 have e0:mqE v p=2:=by unfold mqE;rw [Ae hv]
 rw [e0,Ae (by decide)];refine Au (v:=(0,false)) (.of fun N=>?_) ?_
 ·unfold Gc;rw [Q9,Q9,Ab (fun x=>hv (.inl x)),Ab (fun x=>hv (.inr x))];rfl
 exact Aw (fun _ => .ret rfl) (fun g=>nomatch g)
theorem Z6y {e:Qd} (hp:e.Proto=1∨e.Proto=2) (h0:evX e=0):mqE (3+e.Proto) (pkE e)=0∧toX (3+e.Proto) (pkE e)=(e,0):=by
 unfold evX at h0
 have e3:3+e.Proto - 3=e.Proto:=by omega
 by_cases hk:e.Kind=1
 ·rw [Af hk] at h0;unfold Qeb at h0;rw [Af hk] at h0
  by_cases hn:Q0u e.Topic=true
  rotate_left
  ·rw [Ae hn] at h0;exact absurd h0 (by decide)
  rw [Af hn] at h0
  by_cases hM:PubM e
  rotate_left
  ·rw [Ae hM] at h0;exact absurd h0 (by decide)
  rw [Af hM] at h0
  have hl:Q83 3 [] e.Props=0:=Decidable.byContradiction fun x=>by rw [Ae x] at h0;exact absurd h0 (by decide)
  have hq:=hM.qos;have hi:=hM.id;have ha:=hM.ack
  have hpk:pkE e=pkM e:=by unfold pkE;rw [Af hk]
  have hm:mqE (3+e.Proto) (pkM e)=0:=by
   unfold mqE;rw [Af (by omega),Ae (by show ¬ ((3:Int)<1∨15<(3:Int)∨((3:Int)=15∧_));omega),Ae (show ¬ ((pkM e).Kind≤2) by show ¬ ((3:Int)≤2);decide),Af (show (pkM e).Kind=3 from rfl)];rw [Qmp ⟨by omega,rfl⟩ ⟨hq,fun x=>?_⟩ ⟨rfl,fun x=>?_,fun x=>?_,fun x=>?_⟩ (.inl hn)]
   ·exact hl
   ·have x:e.QoS=0:=x
    cases hd:e.Dup with
    | false=>exact hd
    | true=>have:=hM.dup hd;omega
   ·have x:3+e.Proto=4:=x;show e.Props = []
    exact Decidable.byContradiction fun y=>by have:=hM.props y;omega
   ·have x:e.QoS=0:=x;show e.ID=0
    exact Decidable.byContradiction fun y=>by have:=ha.1 y;omega
   have x:e.QoS≠0:=x;have:=ha.2 (by omega);show 1≤e.ID∧e.ID≤65535;omega
  rw [hpk];refine ⟨hm,?_⟩
  have ht:e.Topic ≠ []:=fun x=>by rw [x] at hn;exact absurd hn (by decide)
  unfold toX;rw [Af hm,Af (show (pkM e).Kind=3 from rfl),Ae (show ¬ (pkM e).Topic = [] from ht),e3,← Z22 hk hM]
 rw [Ae hk] at h0
 by_cases hk2:e.Kind=2
 rotate_left
 ·rw [Ae hk2] at h0;exact absurd h0 (by decide)
 rw [Af hk2] at h0;unfold Qy3 at h0
 have hpk:pkE e=e.Packet:=by unfold pkE;rw [Ae hk]
 rw [hpk]
 by_cases he:e=evO e.Proto e.Packet
 rotate_left
 ·rw [Ae he] at h0;exact absurd h0 (by decide)
 rw [Af he] at h0
 by_cases h3:e.Packet.Kind=3
 ·rw [Af h3] at h0;exact absurd h0 (by decide)
 rw [Ae h3] at h0;refine ⟨h0,?_⟩;unfold toX;rw [Af h0,Ae h3,e3,← he]
end
end Go.Av
namespace Go.Av
noncomputable section
end
end Go.Av
namespace Go.Av
noncomputable section
def Z75 (l:Yz):Bool:=decide (l.MaxPacket≥16)&&(decide (l.MaxPacket≤1048576)&&(decide (l.MaxDepth≥0)&&decide (l.MaxDepth≤32)))
theorem Z8c (N:Nat) (l:Yz):Q2m N l=some (Z75 l):=by
 unfold Q2m Z75;rw [Xv,X2,Xv,X2];cases decide (l.MaxPacket≥16)<;>cases decide (l.MaxPacket≤1048576)<;>cases decide (l.MaxDepth≥0)<;>rfl
theorem Z80 (N:Nat) (l:Yz):U1 N l=some (Z75 l):=by
 unfold U1 Z75;rw [Xv,X2,Xv,X2];cases decide (l.MaxPacket≥16)<;>cases decide (l.MaxPacket≤1048576)<;>cases decide (l.MaxDepth≥0)<;>rfl
noncomputable def byX (e:Qd) (l:Yz):List UInt8×Int:=if Z75 l=true then (if (frX e).2.2=0 then (if ((Z1h (frX e).1 (frX e).2.1).length:Int)>l.MaxPacket then ([],4) else (Z1h (frX e).1 (frX e).2.1,0)) else ([],(frX e).2.2)) else ([],2)
theorem Zm0 {e:Qd} (h0:(frX e).2.2=0):(e.Proto=1∨e.Proto=2)∧evX e=0∧frX e=(3+e.Proto,pkE e,0):=by
 unfold frX at h0 ⊢
 by_cases hp:e.Proto=1∨e.Proto=2
 ·rw [Af hp] at h0 ⊢
  by_cases hx:evX e=0
  ·rw [Af hx];exact ⟨hp,hx,rfl⟩
  rw [Ae hx] at h0;exact absurd h0 hx
 rw [Ae hp] at h0;exact absurd h0 (by decide)
theorem Z6c {e:Qd} (h:LE e) (l:Yz):Tot (fun N=>Q2n N e l) (byX e l):=by
 refine Ar ?_;unfold Q2n byX;refine Au (.of fun N=>Z8c N l) ?_;refine Aw (fun g => .ret (by rw [Ae (by rw [bN g];decide)])) (fun g=>?_);rw [Af (bP g)];refine Au (Z58 h) ?_;rw [Qp];refine Aw (fun g => .ret (by rw [Ae (Aa g)])) (fun g=>?_);have h0:(frX e).2.2=0:=Decidable.byContradiction fun x=>Ac g x;rw [Af h0];obtain ⟨hp,hx,ef⟩:=Zm0 h0;have hm:=(Z6y hp hx).1
 have eb:Q21 (mqE (3+e.Proto) (pkE e)) (Z1h (3+e.Proto) (pkE e))=(Z1h (3+e.Proto) (pkE e),0):=by unfold Q21;rw [Af hm]
 rw [ef];refine Au (Z3y (Qw1 h)) ?_;rw [eb];refine Aw (fun g=>nomatch g) (fun _=>?_);rw [Qx];exact Aw (fun g => .ret (by rw [Af (Aa g)])) (fun g => .ret (by rw [Ae (Ac g)]))
theorem shP {p:Q1} (h:Qdi p):Z13 p:=⟨by have:=h.codes;omega,by have:=h.filters.1;omega,by have:=h.props.len;omega,by have:=h.wprops.len;omega⟩
theorem Qjg {e:Qd} (h1:e.Props.length≤30) (h2:e.Hops.length≤30) (hk:Qdi e.Packet) (hv:e.Frame.Values = []):Tot (fun N=>W3 N e) e:=by
 refine ⟨1,fun N hN=>?_⟩;obtain ⟨M,rfl⟩:∃ M,N=M+1:=⟨N - 1,by omega⟩
 have nb:∀ {T:Type} (c:T->List PV) (l:List T) (k:Nat),l.length≤30->k≤100->Nat.ble ((0+(Q7 c l).length+4096) * k) 17592186044416=true:=fun c l k a b=>by
  rw [Q3,Lm]
  calc (0+l.length+4096) * k≤(0+30+4096) * 100:=Nat.mul_le_mul (by omega) b
   _≤17592186044416:=by decide
 show W3 (M+1) e=_;unfold W3;simp only [nb Q6.cells e.Props 48 h1 (by decide),nb Q09.cells e.Hops 24 h2 (by decide),Qqw _ _ (shP hk),Ll,Ai];obtain ⟨a0,a1,a2,a3,a4,a5,a6,a7,a8,a9,a10,a11,a12,a13,⟨b0,b1,b2,b3⟩⟩:=e
 simp only at hv
 subst hv;cases a8<;>cases a10<;>rfl
theorem Z84 {v:Int} {p:Q1} (h:Qdi p):Tot (fun N=>Q12 N v p) (toX v p):=by
 refine Ar ?_;have h3:=h.props.len;have:=ml2;unfold Q12 toX
 by_cases hv:v=4∨v=5
 ·refine Au (v:=(v - 3,true)) (.of fun _=>by rcases hv with x | x<;>rw [x]<;>rfl) ?_;refine Aw (fun g=>nomatch g) (fun _=>?_);refine Au (Z5x h) ?_;rw [Qp,Qp,Gz];refine Aw (fun g => .ret (by rw [Ae (Aa g)];rfl)) (fun g=>?_);rw [Af (Decidable.byContradiction fun x=>Ac g x)];refine Aw (fun g=>?_) (fun g=>?_)
  ·rw [Ae (Aa g)];exact Au (Qjg (e:=evO (v - 3) p) (Ln _) (Ln _) h rfl) (.ret rfl)
  rw [Af (Decidable.byContradiction fun x=>Ac g x)];refine Aw (fun g => .ret (by rw [Af (Aa g)];rfl)) (fun g=>?_);rw [Ae (Ac g)];exact Au (Qjg (e:=evM (v - 3) p) (by show p.Props.length≤_;omega) (Ln _) Z5b rfl) (.ret rfl)
 have e0:mqE v p=2:=by unfold mqE;rw [Ae hv]
 rw [e0,Ae (by decide)];refine Au (v:=(0,false)) (.of fun N=>?_) ?_
 ·unfold Wj;rw [Q9,Q9,Ab (fun x=>hv (.inl x)),Ab (fun x=>hv (.inr x))];rfl
 exact Aw (fun _ => .ret rfl) (fun g=>nomatch g)
theorem Qxs {e:Qd} (h:LE e):Tot (fun N=>Um N e) (frX e):=by
 refine Ar ?_;unfold Um frX
 by_cases hp:e.Proto=1∨e.Proto=2
 ·rw [Af hp];refine Au (v:=(3+e.Proto,true)) (.of fun _=>by rcases hp with x | x<;>rw [x]<;>rfl) ?_;refine Aw (fun g=>nomatch g) (fun _=>?_);refine Au (v:=Z4f) (.of fun _=>rfl) ?_;refine Au (Z6b h hp) ?_;rw [Qp];refine Aw (fun g => .ret (by rw [Ae (Aa g)];rfl)) (fun g=>?_);have h0:evX e=0:=Decidable.byContradiction fun x=>Ac g x;rw [Af h0];have hl1:=h.props.len;have hl2:e.Hops.length≤30:=h.dg.hops;have:=ml2;refine Au (Qjg (by omega) (by omega) h.pk (Z5q h0)) ?_;unfold pkE;rw [Q9];refine Aw (fun g=>?_) (fun g=>?_)
  ·have g:=Aa g;rw [Ae (by omega)];exact .ret rfl
  have hk:e.Kind=1:=by
   have g:=Ac g;unfold evX at h0
   by_cases hk:e.Kind=1
   ·exact hk
   rw [Ae hk,Ae g] at h0;exact absurd h0 (by decide)
  rw [Af hk];exact .ret rfl
 rw [Ae hp];refine Au (v:=(0,false)) (.of fun N=>?_) ?_
 ·unfold Xs Ws;rw [Q9,Q9,Ab (fun x=>hp (.inl x)),Ab (fun x=>hp (.inr x))];rfl
 exact Aw (fun _ => .ret rfl) (fun g=>nomatch g)
theorem Z09 {e:Qd} (h:LE e) (l:Yz):Tot (fun N=>Jl N e l) (byX e l):=by
 refine Ar ?_;unfold Jl byX;refine Au (.of fun N=>Z80 N l) ?_;refine Aw (fun g => .ret (by rw [Ae (by rw [bN g];decide)])) (fun g=>?_);rw [Af (bP g)];refine Au (Qxs h) ?_;rw [Qp];refine Aw (fun g => .ret (by rw [Ae (Aa g)])) (fun g=>?_);have h0:(frX e).2.2=0:=Decidable.byContradiction fun x=>Ac g x;rw [Af h0];obtain ⟨hp,hx,ef⟩:=Zm0 h0;have hm:=(Z6y hp hx).1
 have eb:Q21 (mqE (3+e.Proto) (pkE e)) (Z1h (3+e.Proto) (pkE e))=(Z1h (3+e.Proto) (pkE e),0):=by unfold Q21;rw [Af hm]
 rw [ef];refine Au (Z3o (Qw1 h)) ?_;rw [eb,Qx];refine Aw (fun _=>?_) (fun g=>nomatch g);exact Aw (fun g => .ret (by rw [Af (Aa g)])) (fun g => .ret (by rw [Ae (Ac g)]))
theorem Z8s {e:Qd} (hp:e.Props.length≤30) (hk:Qy7 e.Packet) (hh:e.Hops = []) (hf:e.Frame=zF):Z3n e:=⟨Na hp (Mb rfl),by rw [hh];exact Ln _,hk,by rw [hf];show Q2.szs []<700000000;decide⟩
theorem Z77 {v:Int} {p:Q1} (h:Qdi p):Z3n (toX v p).1:=by
 unfold toX;have z:Z3n zE:=Z8s (Ln _) Qdn rfl rfl;split
 ·split
  ·split
   ·exact z
   exact Z8s h.props.len Qdn rfl rfl
  exact Z8s (Ln _) h.l rfl rfl
 exact z
theorem Z6f {e:Qd} (h:LE e):Qy7 (frX e).2.1:=by
 unfold frX;split
 ·split
  ·exact (Qw1 h).l
  exact Qdn
 exact Qdn
theorem Za2 (n:Int):∃ v:Int×Bool,Tot (fun N=>U6 N n) v∧Tot (fun N=>Xs N n) v:=by
 by_cases h1:n=1
 ·subst h1;exact ⟨(4,true),.of fun _=>rfl,.of fun _=>rfl⟩
 by_cases h2:n=2
 ·subst h2;exact ⟨(5,true),.of fun _=>rfl,.of fun _=>rfl⟩
 refine ⟨(0,false),.of fun N=>?_,.of fun N=>?_⟩
 ·unfold U6;rw [Q9,Q9,Ab h1,Ab h2];rfl
 unfold Xs Ws;rw [Q9,Q9,Ab h1,Ab h2];rfl
theorem Z7y (n:Int):∃ v:Int×Bool,Tot (fun N=>Gc N n) v∧Tot (fun N=>Wj N n) v:=by
 by_cases h1:n=4
 ·subst h1;exact ⟨(1,true),.of fun _=>rfl,.of fun _=>rfl⟩
 by_cases h2:n=5
 ·subst h2;exact ⟨(2,true),.of fun _=>rfl,.of fun _=>rfl⟩
 refine ⟨(0,false),.of fun N=>?_,.of fun N=>?_⟩
 ·unfold Gc;rw [Q9,Q9,Ab h1,Ab h2];rfl
 unfold Wj;rw [Q9,Q9,Ab h1,Ab h2];rfl
theorem Qpy (v:Int) (p:Q1) (e:Qd) (l:Yz) (n:Int) (hp:Qco p) (he:Qi3 e):TotP (fun N=>Xx N v p e l n) (· = true):=by
 unfold Xx;refine Au (v:=true) ⟨200,fun N hN=>by obtain ⟨M,rfl⟩:∃ M,N=M+200:=⟨N - 200,by omega⟩;exact Z20 M⟩ ?_;refine Aw (fun g=>nomatch g) (fun _=>?_);refine At (Qph p hp.Filters_ok.1 hp.Props_ok.1 hp.Will_ok.Props_ok.1) (fun b hb=>?_);refine Aw (fun _ => .ret rfl) (fun g=>?_);have hpk:=hb (bP g);have hoe:OkE e:=⟨he.Topic_ok,he.Props_ok.1,he.Packet_ok.Filters_ok.1,he.Packet_ok.Props_ok.1,he.Packet_ok.Will_ok.Props_ok.1⟩;refine At (Qye e hoe he.Frame_ok.Values_ok.2) (fun b hb=>?_);refine Aw (fun _ => .ret rfl) (fun g=>?_);have hle:=hb (bP g);refine Au (toO hpk) ?_;refine Au (Z84 hpk) ?_;refine Au (Z58 hle) ?_;refine Au (Qxs hle) ?_;refine Au (Z6c hle l) ?_;refine Au (Z09 hle l) ?_;obtain ⟨a,a1,a2⟩:=Za2 n;refine Au a1 ?_;refine Au a2 ?_;obtain ⟨c,c1,c2⟩:=Z7y n;refine Au c1 ?_;refine Au c2 ?_;refine At (Qfu _ _ (Z77 hpk)) (fun b hb=>?_);obtain rfl:=hb.2 rfl
 have ci:∀ x:Int,Q4 .eql x x=true:=fun x=>by rw [Q9,Ad rfl]
 have cs:∀ x:List UInt8,Q1l .eql x x=true:=fun x=>by rw [Gz,Ad rfl]
 simp only [ci,cs,beq_self_eq_true,Ai];refine At (Jt _ _ (Z6f hle)) (fun b hb=>?_);obtain rfl:=hb.2 rfl;exact .ret rfl
theorem Z3m (v:Int) (p:Q1) (e:Qd) (l:Yz) (n:Int) (hp:Qco p) (he:Qi3 e):∃ N,Xx N v p e l n=some true:=by
 obtain ⟨r,rfl,N,h⟩:=Qpy v p e l n hp he;exact ⟨N,h N (Lj _)⟩
end
end Go.Av
