/- Part of the proof of CrossRound: for every input the law returns true; no condition. -/
import Derived.Test.YtaokaobiihpkbaaGreatDoorAvClosed4
import Derived.Test.YtaokaobiihpkbaaGreatDoorAvGc
import Derived.Test.YtaokaobiihpkbaaGreatDoorAvDrawt
import Derived.Test.YtaokaobiihpkbaaGreatDoorAvAbb
set_option linter.all false
namespace Go.Av
noncomputable section
def Qkh:List COper→Nat×Bool
 | []=>(0,true)
 | c::r=>match Qkh r with
  | (0,true)=>match Q3i c with
   | true=>(0,true)
   | false=>(1,false)
  | (n,_)=>(n+1,false)
def Qz9 (q:Nat) (c:COper):Bool:=Nat.beq (c.bef % 2 ^ q) (2 ^ q - 1)
def Qye (cs:List COper):Nat→Nat→Nat
 | 0,q=>q
 | n+1,q=>match (cs.drop q).all (Qz9 q) with
  | true=>q
  | false=>Qye cs n (q+1)
def Qwn (cs:List COper) (q:Nat):Nat→Nat→Nat
 | 0,p=>p
 | n+1,p=>match Qcv p ((cs.drop p).take (q - p)) with
  | true=>p
  | false=>Qwn cs q n (p+1)
def Qze (cs:List COper) (n:Nat):Nat×Nat:=match Qye cs n (Qkh cs).1 with
 | q=>(Qwn cs q n 0,q)
def Qqc:List COper→Bool
 | []=>false
 | c::r=>match c.op.isCall with
  | true=>true
  | false=>Qqc r
def Qx3 (cs:List COper) (p m:Nat) (c0:COper) (suf:List COper):Bool:=
 Nat.ble m suf.length&&(Qcv (cs.take p).length ((c0::suf).take (m+1))&&(((c0::suf).drop (m+1)).all Q3i&&((c0::suf).drop (m+1)).all (fun c=>Nat.beq (c.bef % 2 ^ ((cs.take p).length+(m+1))) (2 ^ ((cs.take p).length+(m+1)) - 1))))
def Q7o {α:Type} (fail : α) (kn:Know2) (EH:Env (Option (AV×List AObj))) (f:Nat) (args:List AV) (H:List AObj) (k:AV→List AObj→List Nat→List Nat → α) : α:=match refsLt.refsLts 0 args with
 | true=>match kn.tab f with
  | some cf=>match Q1y EH cf args [] (fun v H'=>some (v,H')) with
   | some (r,obs)=>match Nat.ble 1 obs.length with
    | true=>k (Q1v (fun j=>H.length+j) r) (H++obs.map (Q6o (fun j=>H.length+j))) [] (List.range' H.length obs.length)
    | false=>fail
   | none=>fail
  | none=>fail
 | false=>fail
def Qa5 {α:Type} (fail : α) (kn:Know2) (EV:Env (Option PV)) (EA:Env (Option AV)) (EH:Env (Option (AV×List AObj))) (f:Nat) (args:List AV) (H:List AObj) (k:AV→List AObj→List Nat→List Nat → α) : α:=
 match AV.toPVs args with
 | some pa=>match Q6y kn EV f pa with
  | some r=>k (.p r) H [] []
  | none=>Q7o fail kn EH f args H k
 | none=>match Qbv H args with
  | some pa=>match Q6y kn EV f pa with
   | some r=>match J3 r with
    | true=>k (.p r) H (Q0s H args) []
    | false=>Q1x fail (fun _=>match (Q0s H args).all (fun a=>Nat.blt a H.length) with
     | true=>k (.p r) (Q0l (Qp0 (Q0s H args)) H) (Q0s H args) (Q0s H args)
     | false=>fail) kn EA f args H k
   | none=>Q1x fail (fun _=>Q7o fail kn EH f args H k) kn EA f args H k
  | none=>match args with
  | .ptr a 0::rest=>match AV.toPVs rest with
   | some pr=>match H[a]? with
    | some (.cells cs)=>match Qvf cs with
     | some cells=>match Qhe kn EV f cells pr with
      | some (.tuple [r,.agg cells'])=>k (.p r) (H.set a (.cells (cells'.map .p))) [a] [a]
      | _=>Q1x fail (fun _=>Q7o fail kn EH f args H k) kn EA f args H k
     | none=>Q1x fail (fun _=>Q7o fail kn EH f args H k) kn EA f args H k
    | _=>Q1x fail (fun _=>Q7o fail kn EH f args H k) kn EA f args H k
   | none=>Q1x fail (fun _=>Q7o fail kn EH f args H k) kn EA f args H k
  | _=>Q1x fail (fun _=>Q7o fail kn EH f args H k) kn EA f args H k


def Vs (kn:Know2) (Gl:Nat→Option (List PV)) (N:Nat):Nat→(β:Type)→Env (Option β)
 | 0,_ => { fail:=none,cmp:=⟨Q5,rfl⟩,scmp:=⟨Q0m,rfl⟩,glob:=Gl,call:=fun _ _ _ _=>none,loop:=fun _ _ _ _=>none,join:=fun _ _ _ _ _=>none,draw:=fun _ _ _ _=>none }
 | d+1,β=>Env.mk none ⟨Q5,rfl⟩ ⟨Q0m,rfl⟩ Gl
   (Qs3 kn (Vs kn Gl N d PV) fun f args H k=>match kn.tab f with
     | some cf=>Q1y (Vs kn Gl N d β) cf args H k
     | none=>none)
   (fun b tm H k=>Qgn (Vs kn Gl N d β) b N tm H k)
   (fun a b tm H k=>ev (Vs kn Gl N d β) a tm H fun e tm H=>match e with
    | .normal=>ev (Vs kn Gl N d β) b tm H k
    | .exit i=>k (.exit i) tm H
    | .ret=>k .ret tm H)
   (fun ops tm H k=>match Q1w 0 ops with
    | (pre,suf)=>match Qqc pre with
     | true=>match Qze ops ops.length with
      | (p,q)=>match Nat.blt p pre.length with
       | true=>match ops.drop p with
        | c0::suf2=>match Qx3 ops p (q - p - 1) c0 suf2 with
         | true=>Vq (Vs kn Gl N d β) (Qa5 none kn (Vs kn Gl N d PV) (Vs kn Gl N d AV) (Vs kn Gl N d (AV×List AObj))) (fun tm H=>V6 (Vs kn Gl N d β) k (c0::suf2) tm H) (ops.take p) tm H 0 []
         | false=>Vq (Vs kn Gl N d β) (Qa5 none kn (Vs kn Gl N d PV) (Vs kn Gl N d AV) (Vs kn Gl N d (AV×List AObj))) (fun tm H=>V6 (Vs kn Gl N d β) k suf tm H) pre tm H 0 []
        | []=>Vq (Vs kn Gl N d β) (Qa5 none kn (Vs kn Gl N d PV) (Vs kn Gl N d AV) (Vs kn Gl N d (AV×List AObj))) (fun tm H=>V6 (Vs kn Gl N d β) k suf tm H) pre tm H 0 []
       | false=>Vq (Vs kn Gl N d β) (Qa5 none kn (Vs kn Gl N d PV) (Vs kn Gl N d AV) (Vs kn Gl N d (AV×List AObj))) (fun tm H=>V6 (Vs kn Gl N d β) k suf tm H) pre tm H 0 []
     | false=>Vq (Vs kn Gl N d β) (Qa5 none kn (Vs kn Gl N d PV) (Vs kn Gl N d AV) (Vs kn Gl N d (AV×List AObj))) (fun tm H=>V6 (Vs kn Gl N d β) k suf tm H) pre tm H 0 [])
section
variable {P:Program} {Gl:Nat→Option (List PV)} {kn:Know2}
theorem Q11 (hkn:KnowOk2 P Gl kn) {β:Type} {EH:Env (Option (AV×List AObj))} (hEH:∀ r,Hom EH (EP P Gl) r) {r : β} {f:Nat} {args:List AV} {H:List AObj}
  {kO:AV→List AObj→List Nat→List Nat→Option β} {kP:AV→List AObj→List Nat→List Nat→Prop} (hk:∀ v H' R A,kO v H' R A=some r→kP v H' R A) (he:Q7o none kn EH f args H kO=some r):Xd P Gl f args H kP:=by
 unfold Q7o at he;split at he
 ·rename_i h1;split at he
  ·rename_i cf hcf;split at he
   ·rename_i v obs hv;split at he
    ·rename_i h0;have hc:GC P Gl f args [] v obs:=Qf (hkn.tab f cf hcf) (Q0u (hEH (v,obs)) (fun v0 H' h=>by cases h;exact ⟨rfl,rfl⟩) hv)
     exact Qgo hc h0 ⟨rfl,fun i v u hv hu=>by
      rw [hv] at hu;cases hu;have:=RenV.same (ρ:=fun i=>i) (K:=fun _=>False) (H:=H) v
      rwa [Qg6] at this⟩ h1 _ rfl rfl rfl (hk _ _ _ _ he)
    cases he
   cases he
  cases he
 cases he
theorem Q9h (hkn:KnowOk2 P Gl kn) {β:Type} {EV:Env (Option PV)} (hEV:∀ r,Hom EV (EP P Gl) r) {EA:Env (Option AV)} (hEA:∀ r,Hom EA (EP P Gl) r) {EH:Env (Option (AV×List AObj))} (hEH:∀ r,Hom EH (EP P Gl) r) {r : β} {f:Nat} {args:List AV} {H:List AObj}
  {kO:AV→List AObj→List Nat→List Nat→Option β} {kP:AV→List AObj→List Nat→List Nat→Prop} (hk:∀ v H' R A,kO v H' R A=some r→kP v H' R A) (he:Qa5 none kn EV EA EH f args H kO=some r):Xd P Gl f args H kP:=by
 unfold Qa5 at he;split at he
 ·rename_i pa h1;split at he
  ·rename_i x h2;have hp:=V8 hkn (hEV x) h2;exact .inl ⟨[],[],.p x,fun s h=>(by cases h),fun H2 _=>Xz hp (Je args pa h1) ⟨rfl,rfl⟩,hk _ _ _ _ he⟩
  exact Q11 hkn hEH hk he
 split at he
 ·rename_i pa h1;split at he
  ·rename_i x h2;split at he
   ·rename_i h3;have q:=Gw args pa h1;have hp:=V8 hkn (hEV x) h2;exact .inl ⟨Q0s H args,[],.p x,fun s h=>(by cases h),fun H2 hH2=>Q8h hp ⟨q.1,fun i v x hv hx=>Q95 (fun a o hk ho=>⟨trivial,hH2 a hk o ho⟩) (q.2 i v x hv hx)⟩ h3 ⟨rfl,rfl⟩,hk _ _ _ _ he⟩
   refine Wt hkn hEA hk (fun hz=>?_) he;split at hz
   ·rename_i hR;have q:=Gw args pa h1;have hp:=V8 hkn (hEV x) h2;exact Qe9 _ hp q (fun a ha=>by simpa using Lp.1 hR a ha) (hk _ _ _ _ hz)
   cases hz
  exact Wt hkn hEA hk (fun h=>Q11 hkn hEH hk h) he
 ·split at he
  ·rename_i a rest _ _;split at he
   ·rename_i pr h1;split at he
    ·rename_i cs ha;split at he
     ·rename_i cells hc;split at he
      ·rename_i x cells' h2;have hm:=Q5z hkn (hEV _) h2;refine .inl ⟨[a],[(a,.cells (cells'.map .p))],.p x,fun s hs=>?_,fun H2 hH2=>?_,hk _ _ _ _ he⟩
       ·simp at hs;subst hs;exact (La.1 ha).1
       refine Q5l hm ?_ (Je rest pr h1) ⟨rfl,rfl⟩;rw [hH2 a (by simp) _ ha,Qfg _ _ hc]
      exact Wt hkn hEA hk (fun h=>Q11 hkn hEH hk h) he
     exact Wt hkn hEA hk (fun h=>Q11 hkn hEH hk h) he
    exact Wt hkn hEA hk (fun h=>Q11 hkn hEH hk h) he
   exact Wt hkn hEA hk (fun h=>Q11 hkn hEH hk h) he
  ·exact Wt hkn hEA hk (fun h=>Q11 hkn hEH hk h) he


theorem Qgq (hkn:KnowOk2 P Gl kn) (N:Nat):∀ (d:Nat) (β:Type) (r : β),Hom (Vs kn Gl N d β) (EP P Gl) r
 | 0,β,r=>⟨rfl,rfl,fun f a H kO kP hk he=>(by simp only [Vs] at he;cases he),fun b tm H kO kP hk he=>(by simp only [Vs] at he;cases he),fun a b tm H kO kP hk he=>(by simp only [Vs] at he;cases he),fun b tm H kO kP hk he=>(by simp only [Vs] at he;cases he)⟩
 | d+1,β,r=>by
  have ih:=Qgq hkn N d;refine ⟨rfl,rfl,fun f a H kO kP hk he=>?_,fun b tm H kO kP hk he=>?_,fun a b tm H kO kP hk he=>?_,fun ops tm H kO kP hk he=>?_⟩
  ·simp only [Vs] at he;refine Qi8 hkn (ih PV) hk (fun he=>?_) he
   cases ht:kn.tab f with
   | none=>simp only [ht] at he;cases he
   | some cf=>
    simp only [ht] at he;exact Qf (hkn.tab f cf ht) (Q0u (ih β r) hk he)
  ·simp only [Vs] at he;exact Qx N (Qce (ih β r) hk N tm H he)
  ·simp only [Vs] at he;refine Qao (Q5v (ih β r) a tm H _ _ (fun e v H' hv=>?_) he)
   cases e with
   | normal=>exact Q5v (ih β r) b v H' kO kP hk hv
   | exit i=>exact hk _ _ _ hv
   | ret=>exact hk _ _ _ hv
  ·have old:Vq (Vs kn Gl N d β) (Qa5 none kn (Vs kn Gl N d PV) (Vs kn Gl N d AV) (Vs kn Gl N d (AV×List AObj))) (fun tm H=>V6 (Vs kn Gl N d β) kO (Q1w 0 ops).2 tm H) (Q1w 0 ops).1 tm H 0 []=some r →
     Q5q P Gl ops tm H kP:=by
    intro he2;obtain ⟨h1,h2⟩:=Q7j ops 0;rw [Md] at h2;generalize (Q1w 0 ops).1=pre at he2 h1 h2;generalize (Q1w 0 ops).2=suf at he2 h1 h2;clear he;subst h1
    cases suf with
    | nil=>
     rw [Nq];exact Qk (Q10 (dP:=Xd P Gl) (ih β r) (fun f a H kO kP hk he=>Q9h hkn (ih PV) (ih AV) (ih (AV×List AObj)) hk he) hk pre tm H 0 [] he2)
    | cons c0 suf=>exact Qd5 h2 (Q10 (dP:=Xd P Gl) (ih β r) (fun f a H kO kP hk he=>Q9h hkn (ih PV) (ih AV) (ih (AV×List AObj)) hk he) (fun tm' H' hv=>Q3m (ih β r) hk _ tm' H' hv) pre tm H 0 [] he2)
   simp only [Vs] at he;split at he
   ·split at he
    ·split at he
     ·rename_i c0 suf2 hd;split at he
      ·rename_i hb;simp only [Qx3,Lb] at hb;obtain ⟨b1,b2,b3,b4⟩:=hb;exact Qlm _ _ hd b1 b2 b3 b4 (Q10 (dP:=Xd P Gl) (ih β r) (fun f a H kO kP hk he=>Q9h hkn (ih PV) (ih AV) (ih (AV×List AObj)) hk he) (fun tm' H' hv=>Q3m (ih β r) hk _ tm' H' hv) _ tm H 0 [] he)
      exact old he
     exact old he
    exact old he
   ·exact old he

theorem Qgj (hkn:KnowOk2 P Gl kn) {N d:Nat} {f:Nat} {args:List PV} {r:PV} (h:Q6y kn (Vs kn Gl N d PV) f args=some r):Q71 P Gl f args r:=
 V8 hkn (Qgq hkn N d PV r) h
end
end
end Go.Av
