/- Part of FromsnLearns: the law returns true; no condition. -/
import Derived.Test.YtgkmcegmobfknaaGreatDoorAvClosed4
import Derived.Test.YtgkmcegmobfknaaGreatDoorAvGc
import Derived.Test.YtgkmcegmobfknaaGreatDoorAvDrawt
import Derived.Test.YtgkmcegmobfknaaGreatDoorAvSelf
import Derived.Test.YtgkmcegmobfknaaGreatDoorRegS
import Derived.Test.YtgkmcegmobfknaaGreatDoorChks
set_option linter.all false
namespace Go.Av
noncomputable section
def Qjr:List COper->Nat×Bool
 | []=>(0,true)
 | c::r=>match Qjr r with
  | (0,true)=>match Q39 c with
   | true=>(0,true)
   | false=>(1,false)
  | (n,_)=>(n+1,false)
def Z18 (q:Nat) (c:COper):Bool:=Nat.beq (c.bef % 2 ^ q) (2 ^ q - 1)
def Z0k (cs:List COper):Nat->Nat->Nat
 | 0,q=>q
 | n+1,q=>match (cs.drop q).all (Z18 q) with
  | true=>q
  | false=>Z0k cs n (q+1)
def Qyn (cs:List COper) (q:Nat):Nat->Nat->Nat
 | 0,p=>p
 | n+1,p=>match Qby p ((cs.drop p).take (q - p)) with
  | true=>p
  | false=>Qyn cs q n (p+1)
def Z1t (cs:List COper) (n:Nat):Nat×Nat:=match Z0k cs n (Qjr cs).1 with
 | q=>(Qyn cs q n 0,q)
def Qp9:List COper->Bool
 | []=>false
 | c::r=>match c.op.isCall with
  | true=>true
  | false=>Qp9 r
def Qzb (cs:List COper) (p m:Nat) (c0:COper) (suf:List COper):Bool:=
 Nat.ble m suf.length&&(Qby (cs.take p).length ((c0::suf).take (m+1))&&(((c0::suf).drop (m+1)).all Q39&&((c0::suf).drop (m+1)).all (fun c=>Nat.beq (c.bef % 2 ^ ((cs.take p).length+(m+1))) (2 ^ ((cs.take p).length+(m+1)) - 1))))
def Q7k {α:Type} (fail : α) (kn:Know2) (EH:Env (Option (AV×List AObj))) (f:Nat) (args:List AV) (H:List AObj) (k:AV->List AObj->List Nat->List Nat->α) : α:=match refsLt.refsLts 0 args with
 | true=>match kn.tab f with
  | some cf=>match Q24 EH cf args [] (fun v H'=>some (v,H')) with
   | some (r,obs)=>match Nat.ble 1 obs.length with
    | true=>k (Q15 (fun j=>H.length+j) r) (H++obs.map (Q4c (fun j=>H.length+j))) [] (List.range' H.length obs.length)
    | false=>fail
   | none=>fail
  | none=>fail
 | false=>fail
def Q8y {α:Type} (fail : α) (kn:Know2) (EV:Env (Option PV)) (EA:Env (Option AV)) (EH:Env (Option (AV×List AObj))) (f:Nat) (args:List AV) (H:List AObj) (k:AV->List AObj->List Nat->List Nat->α) : α:=
 match AV.toPVs args with
 | some pa=>match Qaf kn EV f pa with
  | some r=>k (.p r) H [] []
  | none=>Q7k fail kn EH f args H k
 | none=>match Qfc H args with
  | some pa=>match Qaf kn EV f pa with
   | some r=>match Jp r with
    | true=>k (.p r) H (Q6k H args) []
    | false=>Q6w fail (fun _=>match (Q6k H args).all (fun a=>Nat.blt a H.length) with
     | true=>k (.p r) (Q0k (Qw7 (Q6k H args)) H) (Q6k H args) (Q6k H args)
     | false=>fail) kn EA f args H k
   | none=>Q6w fail (fun _=>Q7k fail kn EH f args H k) kn EA f args H k
  | none=>match args with
  | .ptr a 0::rest=>match AV.toPVs rest with
   | some pr=>match H[a]? with
    | some (.cells cs)=>match Qyc cs with
     | some cells=>match Qjm kn EV f cells pr with
      | some (.tuple [r,.agg cells'])=>k (.p r) (H.set a (.cells (cells'.map .p))) [a] [a]
      | _=>Q6w fail (fun _=>Q7k fail kn EH f args H k) kn EA f args H k
     | none=>Q6w fail (fun _=>Q7k fail kn EH f args H k) kn EA f args H k
    | _=>Q6w fail (fun _=>Q7k fail kn EH f args H k) kn EA f args H k
   | none=>Q6w fail (fun _=>Q7k fail kn EH f args H k) kn EA f args H k
  | _=>Q6w fail (fun _=>Q7k fail kn EH f args H k) kn EA f args H k


def Uc (kn:Know2) (Gl:Nat->Option (List PV)) (N:Nat):Nat->(β:Type)->Env (Option β)
 | 0,_ => { fail:=none,cmp:=⟨Q2,rfl⟩,scmp:=⟨Jz,rfl⟩,glob:=Gl,call:=fun _ _ _ _=>none,loop:=fun _ _ _ _=>none,join:=fun _ _ _ _ _=>none,draw:=fun _ _ _ _=>none }
 | d+1,β=>Env.mk none ⟨Q2,rfl⟩ ⟨Jz,rfl⟩ Gl
   (Qws kn (Uc kn Gl N d PV) fun f args H k=>match kn.tab f with
     | some cf=>Q24 (Uc kn Gl N d β) cf args H k
     | none=>none)
   (fun b tm H k=>Qip (Uc kn Gl N d β) b N tm H k)
   (fun a b tm H k=>ev (Uc kn Gl N d β) a tm H fun e tm H=>match e with
    | .normal=>ev (Uc kn Gl N d β) b tm H k
    | .exit i=>k (.exit i) tm H
    | .ret=>k .ret tm H)
   (fun ops tm H k=>match Q38 0 ops with
    | (pre,suf)=>match Qp9 pre with
     | true=>match Z1t ops ops.length with
      | (p,q)=>match Nat.blt p pre.length with
       | true=>match ops.drop p with
        | c0::suf2=>match Qzb ops p (q - p - 1) c0 suf2 with
         | true=>Uf (Uc kn Gl N d β) (Q8y none kn (Uc kn Gl N d PV) (Uc kn Gl N d AV) (Uc kn Gl N d (AV×List AObj))) (fun tm H=>Vr (Uc kn Gl N d β) k (c0::suf2) tm H) (ops.take p) tm H 0 []
         | false=>Uf (Uc kn Gl N d β) (Q8y none kn (Uc kn Gl N d PV) (Uc kn Gl N d AV) (Uc kn Gl N d (AV×List AObj))) (fun tm H=>Vr (Uc kn Gl N d β) k suf tm H) pre tm H 0 []
        | []=>Uf (Uc kn Gl N d β) (Q8y none kn (Uc kn Gl N d PV) (Uc kn Gl N d AV) (Uc kn Gl N d (AV×List AObj))) (fun tm H=>Vr (Uc kn Gl N d β) k suf tm H) pre tm H 0 []
       | false=>Uf (Uc kn Gl N d β) (Q8y none kn (Uc kn Gl N d PV) (Uc kn Gl N d AV) (Uc kn Gl N d (AV×List AObj))) (fun tm H=>Vr (Uc kn Gl N d β) k suf tm H) pre tm H 0 []
     | false=>Uf (Uc kn Gl N d β) (Q8y none kn (Uc kn Gl N d PV) (Uc kn Gl N d AV) (Uc kn Gl N d (AV×List AObj))) (fun tm H=>Vr (Uc kn Gl N d β) k suf tm H) pre tm H 0 [])
section
variable {P:Program} {Gl:Nat->Option (List PV)} {kn:Know2}
theorem Q0v (hkn:KnowOk2 P Gl kn) {β:Type} {EH:Env (Option (AV×List AObj))} (hEH:∀ r,Hom EH (EP P Gl) r) {r : β} {f:Nat} {args:List AV} {H:List AObj}
  {kO:AV->List AObj->List Nat->List Nat->Option β} {kP:AV->List AObj->List Nat->List Nat->Prop} (hk:∀ v H' R A,kO v H' R A=some r->kP v H' R A) (he:Q7k none kn EH f args H kO=some r):Wb P Gl f args H kP:=by
 unfold Q7k at he;split at he
 ·rename_i h1;split at he
  ·rename_i cf hcf;split at he
   ·rename_i v obs hv;split at he
    ·rename_i h0;have hc:GC P Gl f args [] v obs:=Q6 (hkn.tab f cf hcf) (Q1q (hEH (v,obs)) (fun v0 H' h=>by cases h;exact ⟨rfl,rfl⟩) hv)
     exact Qqm hc h0 ⟨rfl,fun i v u hv hu=>by
      rw [hv] at hu;cases hu;have:=RenV.same (ρ:=fun i=>i) (K:=fun _=>False) (H:=H) v
      rwa [Qey] at this⟩ h1 _ rfl rfl rfl (hk _ _ _ _ he)
    cases he
   cases he
  cases he
 cases he
theorem Q8p (hkn:KnowOk2 P Gl kn) {β:Type} {EV:Env (Option PV)} (hEV:∀ r,Hom EV (EP P Gl) r) {EA:Env (Option AV)} (hEA:∀ r,Hom EA (EP P Gl) r) {EH:Env (Option (AV×List AObj))} (hEH:∀ r,Hom EH (EP P Gl) r) {r : β} {f:Nat} {args:List AV} {H:List AObj}
  {kO:AV->List AObj->List Nat->List Nat->Option β} {kP:AV->List AObj->List Nat->List Nat->Prop} (hk:∀ v H' R A,kO v H' R A=some r->kP v H' R A) (he:Q8y none kn EV EA EH f args H kO=some r):Wb P Gl f args H kP:=by
 unfold Q8y at he;split at he
 ·rename_i pa h1;split at he
  ·rename_i x h2;have hp:=Gy hkn (hEV x) h2;exact .inl ⟨[],[],.p x,fun s h=>(by cases h),fun H2 _=>Vg hp (Q04 args pa h1) ⟨rfl,rfl⟩,hk _ _ _ _ he⟩
  exact Q0v hkn hEH hk he
 split at he
 ·rename_i pa h1;split at he
  ·rename_i x h2;split at he
   ·rename_i h3;have q:=Q29 args pa h1;have hp:=Gy hkn (hEV x) h2;exact .inl ⟨Q6k H args,[],.p x,fun s h=>(by cases h),fun H2 hH2=>Qhm hp ⟨q.1,fun i v x hv hx=>Qbj (fun a o hk ho=>⟨trivial,hH2 a hk o ho⟩) (q.2 i v x hv hx)⟩ h3 ⟨rfl,rfl⟩,hk _ _ _ _ he⟩
   refine Q0r hkn hEA hk (fun hz=>?_) he;split at hz
   ·rename_i hR;have q:=Q29 args pa h1;have hp:=Gy hkn (hEV x) h2;exact Qlq _ hp q (fun a ha=>by simpa using Lq.1 hR a ha) (hk _ _ _ _ hz)
   cases hz
  exact Q0r hkn hEA hk (fun h=>Q0v hkn hEH hk h) he
 ·split at he
  ·rename_i a rest _ _;split at he
   ·rename_i pr h1;split at he
    ·rename_i cs ha;split at he
     ·rename_i cells hc;split at he
      ·rename_i x cells' h2;have hm:=Q9c hkn (hEV _) h2;refine .inl ⟨[a],[(a,.cells (cells'.map .p))],.p x,fun s hs=>?_,fun H2 hH2=>?_,hk _ _ _ _ he⟩
       ·simp at hs;subst hs;exact (La.1 ha).1
       refine Q7f hm ?_ (Q04 rest pr h1) ⟨rfl,rfl⟩;rw [hH2 a (by simp) _ ha,Qii _ _ hc]
      exact Q0r hkn hEA hk (fun h=>Q0v hkn hEH hk h) he
     exact Q0r hkn hEA hk (fun h=>Q0v hkn hEH hk h) he
    exact Q0r hkn hEA hk (fun h=>Q0v hkn hEH hk h) he
   exact Q0r hkn hEA hk (fun h=>Q0v hkn hEH hk h) he
  ·exact Q0r hkn hEA hk (fun h=>Q0v hkn hEH hk h) he


theorem Qh7 (hkn:KnowOk2 P Gl kn) (N:Nat):∀ (d:Nat) (β:Type) (r : β),Hom (Uc kn Gl N d β) (EP P Gl) r
 | 0,β,r=>⟨rfl,rfl,fun f a H kO kP hk he=>(by simp only [Uc] at he;cases he),fun b tm H kO kP hk he=>(by simp only [Uc] at he;cases he),fun a b tm H kO kP hk he=>(by simp only [Uc] at he;cases he),fun b tm H kO kP hk he=>(by simp only [Uc] at he;cases he)⟩
 | d+1,β,r=>by
  have ih:=Qh7 hkn N d;refine ⟨rfl,rfl,fun f a H kO kP hk he=>?_,fun b tm H kO kP hk he=>?_,fun a b tm H kO kP hk he=>?_,fun ops tm H kO kP hk he=>?_⟩
  ·simp only [Uc] at he;refine Qq1 hkn (ih PV) hk (fun he=>?_) he
   cases ht:kn.tab f with
   | none=>simp only [ht] at he;cases he
   | some cf=>
    simp only [ht] at he;exact Q6 (hkn.tab f cf ht) (Q1q (ih β r) hk he)
  ·simp only [Uc] at he;exact Z2 N (Qht (ih β r) hk N tm H he)
  ·simp only [Uc] at he;refine Qew (Q7l (ih β r) a tm H _ _ (fun e v H' hv=>?_) he)
   cases e with
   | normal=>exact Q7l (ih β r) b v H' kO kP hk hv
   | exit i=>exact hk _ _ _ hv
   | ret=>exact hk _ _ _ hv
  ·have old:Uf (Uc kn Gl N d β) (Q8y none kn (Uc kn Gl N d PV) (Uc kn Gl N d AV) (Uc kn Gl N d (AV×List AObj))) (fun tm H=>Vr (Uc kn Gl N d β) kO (Q38 0 ops).2 tm H) (Q38 0 ops).1 tm H 0 []=some r ->
     Q3q P Gl ops tm H kP:=by
    intro he2;obtain ⟨h1,h2⟩:=Qb3 ops 0;rw [Me] at h2;generalize (Q38 0 ops).1=pre at he2 h1 h2;generalize (Q38 0 ops).2=suf at he2 h1 h2;clear he;subst h1
    cases suf with
    | nil=>
     rw [Nh];exact Qm (Q2x (dP:=Wb P Gl) (ih β r) (fun f a H kO kP hk he=>Q8p hkn (ih PV) (ih AV) (ih (AV×List AObj)) hk he) hk pre tm H 0 [] he2)
    | cons c0 suf=>exact Qhf h2 (Q2x (dP:=Wb P Gl) (ih β r) (fun f a H kO kP hk he=>Q8p hkn (ih PV) (ih AV) (ih (AV×List AObj)) hk he) (fun tm' H' hv=>Q4o (ih β r) hk _ tm' H' hv) pre tm H 0 [] he2)
   simp only [Uc] at he;split at he
   ·split at he
    ·split at he
     ·rename_i c0 suf2 hd;split at he
      ·rename_i hb;simp only [Qzb,Lc] at hb;obtain ⟨b1,b2,b3,b4⟩:=hb;exact Ql1 _ _ hd b1 b2 b3 b4 (Q2x (dP:=Wb P Gl) (ih β r) (fun f a H kO kP hk he=>Q8p hkn (ih PV) (ih AV) (ih (AV×List AObj)) hk he) (fun tm' H' hv=>Q4o (ih β r) hk _ tm' H' hv) _ tm H 0 [] he)
      exact old he
     exact old he
    exact old he
   ·exact old he

theorem Qgx (hkn:KnowOk2 P Gl kn) {N d:Nat} {f:Nat} {args:List PV} {r:PV} (h:Qaf kn (Uc kn Gl N d PV) f args=some r):Q7x P Gl f args r:=
 Gy hkn (Qh7 hkn N d PV r) h
end
end
end Go.Av
namespace Go.Av
noncomputable section
open Go.Proofs
attribute [local irreducible] Ga Wb Qd Q4s Q3q Q2
set_option maxHeartbeats 1000000
variable {Gl:Nat->Option (List PV)}
section
variable {R:Reg} {c:List UInt8} {i:Nat} {C:RCl}
end
end
end Go.Av
