/- Part of the proof of CrossTexts: for every input the law returns true; no condition. -/
import Derived.Test.YtaokaobiihpkbaaGreatDoorAvClosed4
import Derived.Test.YtaokaobiihpkbaaGreatDoorAvGc
import Derived.Test.YtaokaobiihpkbaaGreatDoorAvDrawt
import Derived.Test.YtaokaobiihpkbaaGreatDoorAvAbb
set_option linter.all false
namespace Go.Av
noncomputable section
def Qmv:List COper→Nat×Bool
 | []=>(0,true)
 | c::r=>match Qmv r with
  | (0,true)=>match Q4p c with
   | true=>(0,true)
   | false=>(1,false)
  | (n,_)=>(n+1,false)
def Z0h (q:Nat) (c:COper):Bool:=Nat.beq (c.bef % 2 ^ q) (2 ^ q - 1)
def Qyw (cs:List COper):Nat→Nat→Nat
 | 0,q=>q
 | n+1,q=>match (cs.drop q).all (Z0h q) with
  | true=>q
  | false=>Qyw cs n (q+1)
def Qyk (cs:List COper) (q:Nat):Nat→Nat→Nat
 | 0,p=>p
 | n+1,p=>match Qd8 p ((cs.drop p).take (q - p)) with
  | true=>p
  | false=>Qyk cs q n (p+1)
def Z1b (cs:List COper) (n:Nat):Nat×Nat:=match Qyw cs n (Qmv cs).1 with
 | q=>(Qyk cs q n 0,q)
def Qrq:List COper→Bool
 | []=>false
 | c::r=>match c.op.isCall with
  | true=>true
  | false=>Qrq r
def Qyi (cs:List COper) (p m:Nat) (c0:COper) (suf:List COper):Bool:=
 Nat.ble m suf.length&&(Qd8 (cs.take p).length ((c0::suf).take (m+1))&&(((c0::suf).drop (m+1)).all Q4p&&((c0::suf).drop (m+1)).all (fun c=>Nat.beq (c.bef % 2 ^ ((cs.take p).length+(m+1))) (2 ^ ((cs.take p).length+(m+1)) - 1))))
def Q8p {α:Type} (fail : α) (kn:Know2) (EH:Env (Option (AV×List AObj))) (f:Nat) (args:List AV) (H:List AObj) (k:AV→List AObj→List Nat→List Nat → α) : α:=match refsLt.refsLts 0 args with
 | true=>match kn.tab f with
  | some cf=>match Q2o EH cf args [] (fun v H'=>some (v,H')) with
   | some (r,obs)=>match Nat.ble 1 obs.length with
    | true=>k (Q2j (fun j=>H.length+j) r) (H++obs.map (Q7k (fun j=>H.length+j))) [] (List.range' H.length obs.length)
    | false=>fail
   | none=>fail
  | none=>fail
 | false=>fail
def Qau {α:Type} (fail : α) (kn:Know2) (EV:Env (Option PV)) (EA:Env (Option AV)) (EH:Env (Option (AV×List AObj))) (f:Nat) (args:List AV) (H:List AObj) (k:AV→List AObj→List Nat→List Nat → α) : α:=
 match AV.toPVs args with
 | some pa=>match Q7v kn EV f pa with
  | some r=>k (.p r) H [] []
  | none=>Q8p fail kn EH f args H k
 | none=>match Qdm H args with
  | some pa=>match Q7v kn EV f pa with
   | some r=>match Je r with
    | true=>k (.p r) H (Q1v H args) []
    | false=>Q2p fail (fun _=>match (Q1v H args).all (fun a=>Nat.blt a H.length) with
     | true=>k (.p r) (Q1f (Qqm (Q1v H args)) H) (Q1v H args) (Q1v H args)
     | false=>fail) kn EA f args H k
   | none=>Q2p fail (fun _=>Q8p fail kn EH f args H k) kn EA f args H k
  | none=>match args with
  | .ptr a 0::rest=>match AV.toPVs rest with
   | some pr=>match H[a]? with
    | some (.cells cs)=>match Qxg cs with
     | some cells=>match Qhz kn EV f cells pr with
      | some (.tuple [r,.agg cells'])=>k (.p r) (H.set a (.cells (cells'.map .p))) [a] [a]
      | _=>Q2p fail (fun _=>Q8p fail kn EH f args H k) kn EA f args H k
     | none=>Q2p fail (fun _=>Q8p fail kn EH f args H k) kn EA f args H k
    | _=>Q2p fail (fun _=>Q8p fail kn EH f args H k) kn EA f args H k
   | none=>Q2p fail (fun _=>Q8p fail kn EH f args H k) kn EA f args H k
  | _=>Q2p fail (fun _=>Q8p fail kn EH f args H k) kn EA f args H k


def U3 (kn:Know2) (Gl:Nat→Option (List PV)) (N:Nat):Nat→(β:Type)→Env (Option β)
 | 0,_ => { fail:=none,cmp:=⟨Q5,rfl⟩,scmp:=⟨Q0k,rfl⟩,glob:=Gl,call:=fun _ _ _ _=>none,loop:=fun _ _ _ _=>none,join:=fun _ _ _ _ _=>none,draw:=fun _ _ _ _=>none }
 | d+1,β=>Env.mk none ⟨Q5,rfl⟩ ⟨Q0k,rfl⟩ Gl
   (Qt2 kn (U3 kn Gl N d PV) fun f args H k=>match kn.tab f with
     | some cf=>Q2o (U3 kn Gl N d β) cf args H k
     | none=>none)
   (fun b tm H k=>Qj6 (U3 kn Gl N d β) b N tm H k)
   (fun a b tm H k=>ev (U3 kn Gl N d β) a tm H fun e tm H=>match e with
    | .normal=>ev (U3 kn Gl N d β) b tm H k
    | .exit i=>k (.exit i) tm H
    | .ret=>k .ret tm H)
   (fun ops tm H k=>match Q2n 0 ops with
    | (pre,suf)=>match Qrq pre with
     | true=>match Z1b ops ops.length with
      | (p,q)=>match Nat.blt p pre.length with
       | true=>match ops.drop p with
        | c0::suf2=>match Qyi ops p (q - p - 1) c0 suf2 with
         | true=>U2 (U3 kn Gl N d β) (Qau none kn (U3 kn Gl N d PV) (U3 kn Gl N d AV) (U3 kn Gl N d (AV×List AObj))) (fun tm H=>Vj (U3 kn Gl N d β) k (c0::suf2) tm H) (ops.take p) tm H 0 []
         | false=>U2 (U3 kn Gl N d β) (Qau none kn (U3 kn Gl N d PV) (U3 kn Gl N d AV) (U3 kn Gl N d (AV×List AObj))) (fun tm H=>Vj (U3 kn Gl N d β) k suf tm H) pre tm H 0 []
        | []=>U2 (U3 kn Gl N d β) (Qau none kn (U3 kn Gl N d PV) (U3 kn Gl N d AV) (U3 kn Gl N d (AV×List AObj))) (fun tm H=>Vj (U3 kn Gl N d β) k suf tm H) pre tm H 0 []
       | false=>U2 (U3 kn Gl N d β) (Qau none kn (U3 kn Gl N d PV) (U3 kn Gl N d AV) (U3 kn Gl N d (AV×List AObj))) (fun tm H=>Vj (U3 kn Gl N d β) k suf tm H) pre tm H 0 []
     | false=>U2 (U3 kn Gl N d β) (Qau none kn (U3 kn Gl N d PV) (U3 kn Gl N d AV) (U3 kn Gl N d (AV×List AObj))) (fun tm H=>Vj (U3 kn Gl N d β) k suf tm H) pre tm H 0 [])
section
variable {P:Program} {Gl:Nat→Option (List PV)} {kn:Know2}
theorem Q1j (hkn:KnowOk2 P Gl kn) {β:Type} {EH:Env (Option (AV×List AObj))} (hEH:∀ r,Hom EH (EP P Gl) r) {r : β} {f:Nat} {args:List AV} {H:List AObj}
  {kO:AV→List AObj→List Nat→List Nat→Option β} {kP:AV→List AObj→List Nat→List Nat→Prop} (hk:∀ v H' R A,kO v H' R A=some r→kP v H' R A) (he:Q8p none kn EH f args H kO=some r):Xk P Gl f args H kP:=by
 unfold Q8p at he;split at he
 ·rename_i h1;split at he
  ·rename_i cf hcf;split at he
   ·rename_i v obs hv;split at he
    ·rename_i h0;have hc:GC P Gl f args [] v obs:=Qe (hkn.tab f cf hcf) (Q1l (hEH (v,obs)) (fun v0 H' h=>by cases h;exact ⟨rfl,rfl⟩) hv)
     exact Qhw hc h0 ⟨rfl,fun i v u hv hu=>by
      rw [hv] at hu;cases hu;have:=RenV.same (ρ:=fun i=>i) (K:=fun _=>False) (H:=H) v
      rwa [Qg9] at this⟩ h1 _ rfl rfl rfl (hk _ _ _ _ he)
    cases he
   cases he
  cases he
 cases he
theorem Q9w (hkn:KnowOk2 P Gl kn) {β:Type} {EV:Env (Option PV)} (hEV:∀ r,Hom EV (EP P Gl) r) {EA:Env (Option AV)} (hEA:∀ r,Hom EA (EP P Gl) r) {EH:Env (Option (AV×List AObj))} (hEH:∀ r,Hom EH (EP P Gl) r) {r : β} {f:Nat} {args:List AV} {H:List AObj}
  {kO:AV→List AObj→List Nat→List Nat→Option β} {kP:AV→List AObj→List Nat→List Nat→Prop} (hk:∀ v H' R A,kO v H' R A=some r→kP v H' R A) (he:Qau none kn EV EA EH f args H kO=some r):Xk P Gl f args H kP:=by
 unfold Qau at he;split at he
 ·rename_i pa h1;split at he
  ·rename_i x h2;have hp:=Vn hkn (hEV x) h2;exact .inl ⟨[],[],.p x,fun s h=>(by cases h),fun H2 _=>W1 hp (Gd args pa h1) ⟨rfl,rfl⟩,hk _ _ _ _ he⟩
  exact Q1j hkn hEH hk he
 split at he
 ·rename_i pa h1;split at he
  ·rename_i x h2;split at he
   ·rename_i h3;have q:=Q0e args pa h1;have hp:=Vn hkn (hEV x) h2;exact .inl ⟨Q1v H args,[],.p x,fun s h=>(by cases h),fun H2 hH2=>Q9o hp ⟨q.1,fun i v x hv hx=>Q9x (fun a o hk ho=>⟨trivial,hH2 a hk o ho⟩) (q.2 i v x hv hx)⟩ h3 ⟨rfl,rfl⟩,hk _ _ _ _ he⟩
   refine Vb hkn hEA hk (fun hz=>?_) he;split at hz
   ·rename_i hR;have q:=Q0e args pa h1;have hp:=Vn hkn (hEV x) h2;exact Qej _ hp q (fun a ha=>by simpa using Lp.1 hR a ha) (hk _ _ _ _ hz)
   cases hz
  exact Vb hkn hEA hk (fun h=>Q1j hkn hEH hk h) he
 ·split at he
  ·rename_i a rest _ _;split at he
   ·rename_i pr h1;split at he
    ·rename_i cs ha;split at he
     ·rename_i cells hc;split at he
      ·rename_i x cells' h2;have hm:=Q6z hkn (hEV _) h2;refine .inl ⟨[a],[(a,.cells (cells'.map .p))],.p x,fun s hs=>?_,fun H2 hH2=>?_,hk _ _ _ _ he⟩
       ·simp at hs;subst hs;exact (La.1 ha).1
       refine Q6g hm ?_ (Gd rest pr h1) ⟨rfl,rfl⟩;rw [hH2 a (by simp) _ ha,Qg6 _ _ hc]
      exact Vb hkn hEA hk (fun h=>Q1j hkn hEH hk h) he
     exact Vb hkn hEA hk (fun h=>Q1j hkn hEH hk h) he
    exact Vb hkn hEA hk (fun h=>Q1j hkn hEH hk h) he
   exact Vb hkn hEA hk (fun h=>Q1j hkn hEH hk h) he
  ·exact Vb hkn hEA hk (fun h=>Q1j hkn hEH hk h) he


theorem Qj8 (hkn:KnowOk2 P Gl kn) (N:Nat):∀ (d:Nat) (β:Type) (r : β),Hom (U3 kn Gl N d β) (EP P Gl) r
 | 0,β,r=>⟨rfl,rfl,fun f a H kO kP hk he=>(by simp only [U3] at he;cases he),fun b tm H kO kP hk he=>(by simp only [U3] at he;cases he),fun a b tm H kO kP hk he=>(by simp only [U3] at he;cases he),fun b tm H kO kP hk he=>(by simp only [U3] at he;cases he)⟩
 | d+1,β,r=>by
  have ih:=Qj8 hkn N d;refine ⟨rfl,rfl,fun f a H kO kP hk he=>?_,fun b tm H kO kP hk he=>?_,fun a b tm H kO kP hk he=>?_,fun ops tm H kO kP hk he=>?_⟩
  ·simp only [U3] at he;refine Qij hkn (ih PV) hk (fun he=>?_) he
   cases ht:kn.tab f with
   | none=>simp only [ht] at he;cases he
   | some cf=>
    simp only [ht] at he;exact Qe (hkn.tab f cf ht) (Q1l (ih β r) hk he)
  ·simp only [U3] at he;exact Qy N (Qc3 (ih β r) hk N tm H he)
  ·simp only [U3] at he;refine Qbh (Q6a (ih β r) a tm H _ _ (fun e v H' hv=>?_) he)
   cases e with
   | normal=>exact Q6a (ih β r) b v H' kO kP hk hv
   | exit i=>exact hk _ _ _ hv
   | ret=>exact hk _ _ _ hv
  ·have old:U2 (U3 kn Gl N d β) (Qau none kn (U3 kn Gl N d PV) (U3 kn Gl N d AV) (U3 kn Gl N d (AV×List AObj))) (fun tm H=>Vj (U3 kn Gl N d β) kO (Q2n 0 ops).2 tm H) (Q2n 0 ops).1 tm H 0 []=some r →
     Q68 P Gl ops tm H kP:=by
    intro he2;obtain ⟨h1,h2⟩:=Q7z ops 0;rw [Md] at h2;generalize (Q2n 0 ops).1=pre at he2 h1 h2;generalize (Q2n 0 ops).2=suf at he2 h1 h2;clear he;subst h1
    cases suf with
    | nil=>
     rw [Nn];exact Qi (Q1n (dP:=Xk P Gl) (ih β r) (fun f a H kO kP hk he=>Q9w hkn (ih PV) (ih AV) (ih (AV×List AObj)) hk he) hk pre tm H 0 [] he2)
    | cons c0 suf=>exact Qcy h2 (Q1n (dP:=Xk P Gl) (ih β r) (fun f a H kO kP hk he=>Q9w hkn (ih PV) (ih AV) (ih (AV×List AObj)) hk he) (fun tm' H' hv=>Q4l (ih β r) hk _ tm' H' hv) pre tm H 0 [] he2)
   simp only [U3] at he;split at he
   ·split at he
    ·split at he
     ·rename_i c0 suf2 hd;split at he
      ·rename_i hb;simp only [Qyi,Lb] at hb;obtain ⟨b1,b2,b3,b4⟩:=hb;exact Qlo _ _ hd b1 b2 b3 b4 (Q1n (dP:=Xk P Gl) (ih β r) (fun f a H kO kP hk he=>Q9w hkn (ih PV) (ih AV) (ih (AV×List AObj)) hk he) (fun tm' H' hv=>Q4l (ih β r) hk _ tm' H' hv) _ tm H 0 [] he)
      exact old he
     exact old he
    exact old he
   ·exact old he

theorem Qhq (hkn:KnowOk2 P Gl kn) {N d:Nat} {f:Nat} {args:List PV} {r:PV} (h:Q7v kn (U3 kn Gl N d PV) f args=some r):Q7x P Gl f args r:=
 Vn hkn (Qj8 hkn N d PV r) h
end
end
end Go.Av
