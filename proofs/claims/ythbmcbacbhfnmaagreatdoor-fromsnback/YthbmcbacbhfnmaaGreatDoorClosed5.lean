/- Part of FromsnBack: the law returns true; no condition. -/
import Derived.Test.YthbmcbacbhfnmaaGreatDoorAvClosed4
import Derived.Test.YthbmcbacbhfnmaaGreatDoorAvGc
import Derived.Test.YthbmcbacbhfnmaaGreatDoorAvDrawt
import Derived.Test.YthbmcbacbhfnmaaGreatDoorAvSelf
set_option linter.all false
namespace Go.Av
noncomputable section
set_option maxHeartbeats 4000000
def Qt6:List COper->Nat×Bool
 | []=>(0,true)
 | c::r=>match Qt6 r with
  | (0,true)=>match Q8r c with
   | true=>(0,true)
   | false=>(1,false)
  | (n,_)=>(n+1,false)
def Zd1 (q:Nat) (c:COper):Bool:=Nat.beq (c.bef % 2 ^ q) (2 ^ q - 1)
def Za7 (cs:List COper):Nat->Nat->Nat
 | 0,q=>q
 | n+1,q=>match (cs.drop q).all (Zd1 q) with
  | true=>q
  | false=>Za7 cs n (q+1)
def Zax (cs:List COper) (q:Nat):Nat->Nat->Nat
 | 0,p=>p
 | n+1,p=>match Qi8 p ((cs.drop p).take (q - p)) with
  | true=>p
  | false=>Zax cs q n (p+1)
def Zc8 (cs:List COper) (n:Nat):Nat×Nat:=match Za7 cs n (Qt6 cs).1 with
 | q=>(Zax cs q n 0,q)
def Qzm:List COper->Bool
 | []=>false
 | c::r=>match c.op.isCall with
  | true=>true
  | false=>Qzm r
def Z9t (cs:List COper) (p m:Nat) (c0:COper) (suf:List COper):Bool:=
 Nat.ble m suf.length&&(Qi8 (cs.take p).length ((c0::suf).take (m+1))&&(((c0::suf).drop (m+1)).all Q8r&&((c0::suf).drop (m+1)).all (fun c=>Nat.beq (c.bef % 2 ^ ((cs.take p).length+(m+1))) (2 ^ ((cs.take p).length+(m+1)) - 1))))
def Qe9 {α:Type} (fail : α) (kn:Know2) (EH:Env (Option (AV×List AObj))) (f:Nat) (args:List AV) (H:List AObj) (k:AV->List AObj->List Nat->List Nat->α) : α:=match refsLt.refsLts 0 args with
 | true=>match kn.tab f with
  | some cf=>match Q6s EH cf args [] (fun v H'=>some (v,H')) with
   | some (r,obs)=>match Nat.ble 1 obs.length with
    | true=>k (Q6m (fun j=>H.length+j) r) (H++obs.map (Qcd (fun j=>H.length+j))) [] (List.range' H.length obs.length)
    | false=>fail
   | none=>fail
  | none=>fail
 | false=>fail
def Qfo {α:Type} (fail : α) (kn:Know2) (EV:Env (Option PV)) (EA:Env (Option AV)) (EH:Env (Option (AV×List AObj))) (f:Nat) (args:List AV) (H:List AObj) (k:AV->List AObj->List Nat->List Nat->α) : α:=
 match AV.toPVs args with
 | some pa=>match Qc6 kn EV f pa with
  | some r=>k (.p r) H [] []
  | none=>Qe9 fail kn EH f args H k
 | none=>match Qjd H args with
  | some pa=>match Qc6 kn EV f pa with
   | some r=>match Q29 r with
    | true=>k (.p r) H (Q5i H args) []
    | false=>Q6u fail (fun _=>match (Q5i H args).all (fun a=>Nat.blt a H.length) with
     | true=>k (.p r) (Q5l (Qvp (Q5i H args)) H) (Q5i H args) (Q5i H args)
     | false=>fail) kn EA f args H k
   | none=>Q6u fail (fun _=>Qe9 fail kn EH f args H k) kn EA f args H k
  | none=>match args with
  | .ptr a 0::rest=>match AV.toPVs rest with
   | some pr=>match H[a]? with
    | some (.cells cs)=>match Z53 cs with
     | some cells=>match Qoa kn EV f cells pr with
      | some (.tuple [r,.agg cells'])=>k (.p r) (H.set a (.cells (cells'.map .p))) [a] [a]
      | _=>Q6u fail (fun _=>Qe9 fail kn EH f args H k) kn EA f args H k
     | none=>Q6u fail (fun _=>Qe9 fail kn EH f args H k) kn EA f args H k
    | _=>Q6u fail (fun _=>Qe9 fail kn EH f args H k) kn EA f args H k
   | none=>Q6u fail (fun _=>Qe9 fail kn EH f args H k) kn EA f args H k
  | _=>Q6u fail (fun _=>Qe9 fail kn EH f args H k) kn EA f args H k


def Q0g (kn:Know2) (Gl:Nat->Option (List PV)) (N:Nat):Nat->(β:Type)->Env (Option β)
 | 0,_ => { fail:=none,cmp:=⟨Q0,rfl⟩,scmp:=⟨Q10,rfl⟩,glob:=Gl,call:=fun _ _ _ _=>none,loop:=fun _ _ _ _=>none,join:=fun _ _ _ _ _=>none,draw:=fun _ _ _ _=>none }
 | d+1,β=>Env.mk none ⟨Q0,rfl⟩ ⟨Q10,rfl⟩ Gl
   (Z24 kn (Q0g kn Gl N d PV) fun f args H k=>match kn.tab f with
     | some cf=>Q6s (Q0g kn Gl N d β) cf args H k
     | none=>none)
   (fun b tm H k=>Qnr (Q0g kn Gl N d β) b N tm H k)
   (fun a b tm H k=>ev (Q0g kn Gl N d β) a tm H fun e tm H=>match e with
    | .normal=>ev (Q0g kn Gl N d β) b tm H k
    | .exit i=>k (.exit i) tm H
    | .ret=>k .ret tm H)
   (fun ops tm H k=>match Q82 0 ops with
    | (pre,suf)=>match Qzm pre with
     | true=>match Zc8 ops ops.length with
      | (p,q)=>match Nat.blt p pre.length with
       | true=>match ops.drop p with
        | c0::suf2=>match Z9t ops p (q - p - 1) c0 suf2 with
         | true=>Q0f (Q0g kn Gl N d β) (Qfo none kn (Q0g kn Gl N d PV) (Q0g kn Gl N d AV) (Q0g kn Gl N d (AV×List AObj))) (fun tm H=>Q0e (Q0g kn Gl N d β) k (c0::suf2) tm H) (ops.take p) tm H 0 []
         | false=>Q0f (Q0g kn Gl N d β) (Qfo none kn (Q0g kn Gl N d PV) (Q0g kn Gl N d AV) (Q0g kn Gl N d (AV×List AObj))) (fun tm H=>Q0e (Q0g kn Gl N d β) k suf tm H) pre tm H 0 []
        | []=>Q0f (Q0g kn Gl N d β) (Qfo none kn (Q0g kn Gl N d PV) (Q0g kn Gl N d AV) (Q0g kn Gl N d (AV×List AObj))) (fun tm H=>Q0e (Q0g kn Gl N d β) k suf tm H) pre tm H 0 []
       | false=>Q0f (Q0g kn Gl N d β) (Qfo none kn (Q0g kn Gl N d PV) (Q0g kn Gl N d AV) (Q0g kn Gl N d (AV×List AObj))) (fun tm H=>Q0e (Q0g kn Gl N d β) k suf tm H) pre tm H 0 []
     | false=>Q0f (Q0g kn Gl N d β) (Qfo none kn (Q0g kn Gl N d PV) (Q0g kn Gl N d AV) (Q0g kn Gl N d (AV×List AObj))) (fun tm H=>Q0e (Q0g kn Gl N d β) k suf tm H) pre tm H 0 [])
section
variable {P:Program} {Gl:Nat->Option (List PV)} {kn:Know2}
theorem Q5x (hkn:KnowOk2 P Gl kn) {β:Type} {EH:Env (Option (AV×List AObj))} (hEH:∀ r,Hom EH (EP P Gl) r) {r : β} {f:Nat} {args:List AV} {H:List AObj}
  {kO:AV->List AObj->List Nat->List Nat->Option β} {kP:AV->List AObj->List Nat->List Nat->Prop} (hk:∀ v H' R A,kO v H' R A=some r->kP v H' R A) (he:Qe9 none kn EH f args H kO=some r):Wz P Gl f args H kP:=by
 unfold Qe9 at he;split at he
 ·rename_i h1;split at he
  ·rename_i cf hcf;split at he
   ·rename_i v obs hv;split at he
    ·rename_i h0;have hc:GC P Gl f args [] v obs:=Q8 (hkn.tab f cf hcf) (Q5u (hEH (v,obs)) (fun v0 H' h=>by simp_all) hv)
     exact Qom hc h0 ⟨rfl,fun i v u hv hu=>by
      rw [hv] at hu;cases hu;have:=RenV.same (ρ:=fun i=>i) (K:=fun _=>False) (H:=H) v
      rwa [Qlm] at this⟩ h1 _ rfl rfl rfl (hk _ _ _ _ he)
    simp_all
   simp_all
  simp_all
 simp_all
def Qf1 (hkn:KnowOk2 P Gl kn) {β:Type} {EV:Env (Option PV)} (hEV:∀ r,Hom EV (EP P Gl) r) {EA:Env (Option AV)} (hEA:∀ r,Hom EA (EP P Gl) r) {EH:Env (Option (AV×List AObj))} (hEH:∀ r,Hom EH (EP P Gl) r) {r : β} {f:Nat} {args:List AV} {H:List AObj}
  {kO:AV->List AObj->List Nat->List Nat->Option β} {kP:AV->List AObj->List Nat->List Nat->Prop} (hk:∀ v H' R A,kO v H' R A=some r->kP v H' R A) (he:Qfo none kn EV EA EH f args H kO=some r):Wz P Gl f args H kP:=by
 unfold Qfo at he;split at he
 ·rename_i pa h1;split at he
  ·exact dq
  grind [Q5x]
 split at he
 ·rename_i pa h1;split at he
  ·exact aM
  exact bU
 ·split at he
  ·rename_i a rest _ _;split at he
   ·rename_i pr h1;split at he
    ·rename_i cs ha;split at he
     ·rename_i cells hc;split at he
      ·exact bG
      exact bU
     exact bU
    exact bU
   exact bU
  ·exact bU


def Qps (hkn:KnowOk2 P Gl kn) (N:Nat):∀ (d:Nat) (β:Type) (r : β),Hom (Q0g kn Gl N d β) (EP P Gl) r
 | 0,β,r=>⟨rfl,rfl,fun f a H kO kP hk he=>(iv),fun b tm H kO kP hk he=>(iv),fun a b tm H kO kP hk he=>(iv),fun b tm H kO kP hk he=>(iv)⟩
 | d+1,β,r=>by
  have ih:=Qps hkn N d;refine ⟨rfl,rfl,fun f a H kO kP hk he=>?_,fun b tm H kO kP hk he=>?_,fun a b tm H kO kP hk he=>?_,fun ops tm H kO kP hk he=>?_⟩
  ·simp only [Q0g] at he;refine Qo2 hkn (ih PV) hk (fun he=>?_) he
   exact dA
  ·simp only [Q0g] at he;exact Zf N (Qha (ih β r) hk N tm H he)
  ·simp only [Q0g] at he;refine Q6x (Qaz (ih β r) a tm H _ _ (fun e v H' hv=>?_) he)
   exact ed
  ·have old:Q0f (Q0g kn Gl N d β) (Qfo none kn (Q0g kn Gl N d PV) (Q0g kn Gl N d AV) (Q0g kn Gl N d (AV×List AObj))) (fun tm H=>Q0e (Q0g kn Gl N d β) kO (Q82 0 ops).2 tm H) (Q82 0 ops).1 tm H 0 []=some r ->
     Qa1 P Gl ops tm H kP:=by
    intro he2;obtain ⟨h1,h2⟩:=Qd1 ops 0;rw [Mi] at h2;generalize (Q82 0 ops).1=pre at he2 h1 h2;generalize (Q82 0 ops).2=suf at he2 h1 h2;clear he;subst h1
    cases suf with
    | nil=>
     rw [Na];exact Qd (Q5w (dP:=Wz P Gl) (ih β r) (fun f a H kO kP hk he=>Qf1 hkn (ih PV) (ih AV) (ih (AV×List AObj)) hk he) hk pre tm H 0 [] he2)
    | cons c0 suf=>exact Qhx h2 (Q5w (dP:=Wz P Gl) (ih β r) (fun f a H kO kP hk he=>Qf1 hkn (ih PV) (ih AV) (ih (AV×List AObj)) hk he) (fun tm' H' hv=>Q99 (ih β r) hk _ tm' H' hv) pre tm H 0 [] he2)
   simp only [Q0g] at he;split at he
   ·split at he
    ·split at he
     ·rename_i c0 suf2 hd;split at he
      ·rename_i hb;simp only [Z9t,Le] at hb;obtain ⟨b1,b2,b3,b4⟩:=hb;exact Qms _ _ hd b1 b2 b3 b4 (Q5w (dP:=Wz P Gl) (ih β r) (fun f a H kO kP hk he=>Qf1 hkn (ih PV) (ih AV) (ih (AV×List AObj)) hk he) (fun tm' H' hv=>Q99 (ih β r) hk _ tm' H' hv) _ tm H 0 [] he)
      exact old he
     exact old he
    exact old he
   ·exact old he

def Qov (hkn:KnowOk2 P Gl kn) {N d:Nat} {f:Nat} {args:List PV} {r:PV} (h:Qc6 kn (Q0g kn Gl N d PV) f args=some r):Qcp P Gl f args r:=
 Gs hkn (Qps hkn N d PV r) h
end
end
end Go.Av
