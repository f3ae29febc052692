/- Part of the proof of CrossKeeps: for every input the law returns true; no condition. -/
import Derived.Test.YtaokaobiihpkbaaGreatDoorAvClosed4
import Derived.Test.YtaokaobiihpkbaaGreatDoorAvGc
import Derived.Test.YtaokaobiihpkbaaGreatDoorAvDrawt
import Derived.Test.YtaokaobiihpkbaaGreatDoorAvAbb
set_option linter.all false
namespace Go.Av
noncomputable section
def Qm9:List COper→Nat×Bool
 | []=>(0,true)
 | c::r=>match Qm9 r with
  | (0,true)=>match Q57 c with
   | true=>(0,true)
   | false=>(1,false)
  | (n,_)=>(n+1,false)
def Z2e (q:Nat) (c:COper):Bool:=Nat.beq (c.bef % 2 ^ q) (2 ^ q - 1)
def Qzf (cs:List COper):Nat→Nat→Nat
 | 0,q=>q
 | n+1,q=>match (cs.drop q).all (Z2e q) with
  | true=>q
  | false=>Qzf cs n (q+1)
def Z16 (cs:List COper) (q:Nat):Nat→Nat→Nat
 | 0,p=>p
 | n+1,p=>match Qdm p ((cs.drop p).take (q - p)) with
  | true=>p
  | false=>Z16 cs q n (p+1)
def Z2i (cs:List COper) (n:Nat):Nat×Nat:=match Qzf cs n (Qm9 cs).1 with
 | q=>(Z16 cs q n 0,q)
def Qqt:List COper→Bool
 | []=>false
 | c::r=>match c.op.isCall with
  | true=>true
  | false=>Qqt r
def Z18 (cs:List COper) (p m:Nat) (c0:COper) (suf:List COper):Bool:=
 Nat.ble m suf.length&&(Qdm (cs.take p).length ((c0::suf).take (m+1))&&(((c0::suf).drop (m+1)).all Q57&&((c0::suf).drop (m+1)).all (fun c=>Nat.beq (c.bef % 2 ^ ((cs.take p).length+(m+1))) (2 ^ ((cs.take p).length+(m+1)) - 1))))
def Q9q {α:Type} (fail : α) (kn:Know2) (EH:Env (Option (AV×List AObj))) (f:Nat) (args:List AV) (H:List AObj) (k:AV→List AObj→List Nat→List Nat → α) : α:=match refsLt.refsLts 0 args with
 | true=>match kn.tab f with
  | some cf=>match Q39 EH cf args [] (fun v H'=>some (v,H')) with
   | some (r,obs)=>match Nat.ble 1 obs.length with
    | true=>k (Q32 (fun j=>H.length+j) r) (H++obs.map (Q8h (fun j=>H.length+j))) [] (List.range' H.length obs.length)
    | false=>fail
   | none=>fail
  | none=>fail
 | false=>fail
def Qbs {α:Type} (fail : α) (kn:Know2) (EV:Env (Option PV)) (EA:Env (Option AV)) (EH:Env (Option (AV×List AObj))) (f:Nat) (args:List AV) (H:List AObj) (k:AV→List AObj→List Nat→List Nat → α) : α:=
 match AV.toPVs args with
 | some pa=>match Q8n kn EV f pa with
  | some r=>k (.p r) H [] []
  | none=>Q9q fail kn EH f args H k
 | none=>match Qe3 H args with
  | some pa=>match Q8n kn EV f pa with
   | some r=>match G0 r with
    | true=>k (.p r) H (Q2d H args) []
    | false=>Q38 fail (fun _=>match (Q2d H args).all (fun a=>Nat.blt a H.length) with
     | true=>k (.p r) (Q1y (Qrr (Q2d H args)) H) (Q2d H args) (Q2d H args)
     | false=>fail) kn EA f args H k
   | none=>Q38 fail (fun _=>Q9q fail kn EH f args H k) kn EA f args H k
  | none=>match args with
  | .ptr a 0::rest=>match AV.toPVs rest with
   | some pr=>match H[a]? with
    | some (.cells cs)=>match Qya cs with
     | some cells=>match Qio kn EV f cells pr with
      | some (.tuple [r,.agg cells'])=>k (.p r) (H.set a (.cells (cells'.map .p))) [a] [a]
      | _=>Q38 fail (fun _=>Q9q fail kn EH f args H k) kn EA f args H k
     | none=>Q38 fail (fun _=>Q9q fail kn EH f args H k) kn EA f args H k
    | _=>Q38 fail (fun _=>Q9q fail kn EH f args H k) kn EA f args H k
   | none=>Q38 fail (fun _=>Q9q fail kn EH f args H k) kn EA f args H k
  | _=>Q38 fail (fun _=>Q9q fail kn EH f args H k) kn EA f args H k


def Us (kn:Know2) (Gl:Nat→Option (List PV)) (N:Nat):Nat→(β:Type)→Env (Option β)
 | 0,_ => { fail:=none,cmp:=⟨Q4,rfl⟩,scmp:=⟨G9,rfl⟩,glob:=Gl,call:=fun _ _ _ _=>none,loop:=fun _ _ _ _=>none,join:=fun _ _ _ _ _=>none,draw:=fun _ _ _ _=>none }
 | d+1,β=>Env.mk none ⟨Q4,rfl⟩ ⟨G9,rfl⟩ Gl
   (Qty kn (Us kn Gl N d PV) fun f args H k=>match kn.tab f with
     | some cf=>Q39 (Us kn Gl N d β) cf args H k
     | none=>none)
   (fun b tm H k=>Qiy (Us kn Gl N d β) b N tm H k)
   (fun a b tm H k=>ev (Us kn Gl N d β) a tm H fun e tm H=>match e with
    | .normal=>ev (Us kn Gl N d β) b tm H k
    | .exit i=>k (.exit i) tm H
    | .ret=>k .ret tm H)
   (fun ops tm H k=>match Q37 0 ops with
    | (pre,suf)=>match Qqt pre with
     | true=>match Z2i ops ops.length with
      | (p,q)=>match Nat.blt p pre.length with
       | true=>match ops.drop p with
        | c0::suf2=>match Z18 ops p (q - p - 1) c0 suf2 with
         | true=>Uq (Us kn Gl N d β) (Qbs none kn (Us kn Gl N d PV) (Us kn Gl N d AV) (Us kn Gl N d (AV×List AObj))) (fun tm H=>U5 (Us kn Gl N d β) k (c0::suf2) tm H) (ops.take p) tm H 0 []
         | false=>Uq (Us kn Gl N d β) (Qbs none kn (Us kn Gl N d PV) (Us kn Gl N d AV) (Us kn Gl N d (AV×List AObj))) (fun tm H=>U5 (Us kn Gl N d β) k suf tm H) pre tm H 0 []
        | []=>Uq (Us kn Gl N d β) (Qbs none kn (Us kn Gl N d PV) (Us kn Gl N d AV) (Us kn Gl N d (AV×List AObj))) (fun tm H=>U5 (Us kn Gl N d β) k suf tm H) pre tm H 0 []
       | false=>Uq (Us kn Gl N d β) (Qbs none kn (Us kn Gl N d PV) (Us kn Gl N d AV) (Us kn Gl N d (AV×List AObj))) (fun tm H=>U5 (Us kn Gl N d β) k suf tm H) pre tm H 0 []
     | false=>Uq (Us kn Gl N d β) (Qbs none kn (Us kn Gl N d PV) (Us kn Gl N d AV) (Us kn Gl N d (AV×List AObj))) (fun tm H=>U5 (Us kn Gl N d β) k suf tm H) pre tm H 0 [])
section
variable {P:Program} {Gl:Nat→Option (List PV)} {kn:Know2}
theorem Q2e (hkn:KnowOk2 P Gl kn) {β:Type} {EH:Env (Option (AV×List AObj))} (hEH:∀ r,Hom EH (EP P Gl) r) {r : β} {f:Nat} {args:List AV} {H:List AObj}
  {kO:AV→List AObj→List Nat→List Nat→Option β} {kP:AV→List AObj→List Nat→List Nat→Prop} (hk:∀ v H' R A,kO v H' R A=some r→kP v H' R A) (he:Q9q none kn EH f args H kO=some r):Xu P Gl f args H kP:=by
 unfold Q9q at he;split at he
 ·rename_i h1;split at he
  ·rename_i cf hcf;split at he
   ·rename_i v obs hv;split at he
    ·rename_i h0;have hc:GC P Gl f args [] v obs:=Qa (hkn.tab f cf hcf) (Q2b (hEH (v,obs)) (fun v0 H' h=>by cases h;exact ⟨rfl,rfl⟩) hv)
     exact Qij hc h0 ⟨rfl,fun i v u hv hu=>by
      rw [hv] at hu;cases hu;have:=RenV.same (ρ:=fun i=>i) (K:=fun _=>False) (H:=H) v
      rwa [Qhj] at this⟩ h1 _ rfl rfl rfl (hk _ _ _ _ he)
    cases he
   cases he
  cases he
 cases he
theorem Qb3 (hkn:KnowOk2 P Gl kn) {β:Type} {EV:Env (Option PV)} (hEV:∀ r,Hom EV (EP P Gl) r) {EA:Env (Option AV)} (hEA:∀ r,Hom EA (EP P Gl) r) {EH:Env (Option (AV×List AObj))} (hEH:∀ r,Hom EH (EP P Gl) r) {r : β} {f:Nat} {args:List AV} {H:List AObj}
  {kO:AV→List AObj→List Nat→List Nat→Option β} {kP:AV→List AObj→List Nat→List Nat→Prop} (hk:∀ v H' R A,kO v H' R A=some r→kP v H' R A) (he:Qbs none kn EV EA EH f args H kO=some r):Xu P Gl f args H kP:=by
 unfold Qbs at he;split at he
 ·rename_i pa h1;split at he
  ·rename_i x h2;have hp:=U6 hkn (hEV x) h2;exact .inl ⟨[],[],.p x,fun s h=>(by cases h),fun H2 _=>Wl hp (Gm args pa h1) ⟨rfl,rfl⟩,hk _ _ _ _ he⟩
  exact Q2e hkn hEH hk he
 split at he
 ·rename_i pa h1;split at he
  ·rename_i x h2;split at he
   ·rename_i h3;have q:=Q14 args pa h1;have hp:=U6 hkn (hEV x) h2;exact .inl ⟨Q2d H args,[],.p x,fun s h=>(by cases h),fun H2 hH2=>Q9u hp ⟨q.1,fun i v x hv hx=>Qb4 (fun a o hk ho=>⟨trivial,hH2 a hk o ho⟩) (q.2 i v x hv hx)⟩ h3 ⟨rfl,rfl⟩,hk _ _ _ _ he⟩
   refine Vj hkn hEA hk (fun hz=>?_) he;split at hz
   ·rename_i hR;have q:=Q14 args pa h1;have hp:=U6 hkn (hEV x) h2;exact Qfz _ hp q (fun a ha=>by simpa using Lp.1 hR a ha) (hk _ _ _ _ hz)
   cases hz
  exact Vj hkn hEA hk (fun h=>Q2e hkn hEH hk h) he
 ·split at he
  ·rename_i a rest _ _;split at he
   ·rename_i pr h1;split at he
    ·rename_i cs ha;split at he
     ·rename_i cells hc;split at he
      ·rename_i x cells' h2;have hm:=Q7k hkn (hEV _) h2;refine .inl ⟨[a],[(a,.cells (cells'.map .p))],.p x,fun s hs=>?_,fun H2 hH2=>?_,hk _ _ _ _ he⟩
       ·simp at hs;subst hs;exact (La.1 ha).1
       refine Q7g hm ?_ (Gm rest pr h1) ⟨rfl,rfl⟩;rw [hH2 a (by simp) _ ha,Qhh _ _ hc]
      exact Vj hkn hEA hk (fun h=>Q2e hkn hEH hk h) he
     exact Vj hkn hEA hk (fun h=>Q2e hkn hEH hk h) he
    exact Vj hkn hEA hk (fun h=>Q2e hkn hEH hk h) he
   exact Vj hkn hEA hk (fun h=>Q2e hkn hEH hk h) he
  ·exact Vj hkn hEA hk (fun h=>Q2e hkn hEH hk h) he


theorem Qjl (hkn:KnowOk2 P Gl kn) (N:Nat):∀ (d:Nat) (β:Type) (r : β),Hom (Us kn Gl N d β) (EP P Gl) r
 | 0,β,r=>⟨rfl,rfl,fun f a H kO kP hk he=>(by simp only [Us] at he;cases he),fun b tm H kO kP hk he=>(by simp only [Us] at he;cases he),fun a b tm H kO kP hk he=>(by simp only [Us] at he;cases he),fun b tm H kO kP hk he=>(by simp only [Us] at he;cases he)⟩
 | d+1,β,r=>by
  have ih:=Qjl hkn N d;refine ⟨rfl,rfl,fun f a H kO kP hk he=>?_,fun b tm H kO kP hk he=>?_,fun a b tm H kO kP hk he=>?_,fun ops tm H kO kP hk he=>?_⟩
  ·simp only [Us] at he;refine Qj5 hkn (ih PV) hk (fun he=>?_) he
   cases ht:kn.tab f with
   | none=>simp only [ht] at he;cases he
   | some cf=>
    simp only [ht] at he;exact Qa (hkn.tab f cf ht) (Q2b (ih β r) hk he)
  ·simp only [Us] at he;exact Z1 N (Qed (ih β r) hk N tm H he)
  ·simp only [Us] at he;refine Q4e (Q7m (ih β r) a tm H _ _ (fun e v H' hv=>?_) he)
   cases e with
   | normal=>exact Q7m (ih β r) b v H' kO kP hk hv
   | exit i=>exact hk _ _ _ hv
   | ret=>exact hk _ _ _ hv
  ·have old:Uq (Us kn Gl N d β) (Qbs none kn (Us kn Gl N d PV) (Us kn Gl N d AV) (Us kn Gl N d (AV×List AObj))) (fun tm H=>U5 (Us kn Gl N d β) kO (Q37 0 ops).2 tm H) (Q37 0 ops).1 tm H 0 []=some r →
     Q7d P Gl ops tm H kP:=by
    intro he2;obtain ⟨h1,h2⟩:=Q8s ops 0;rw [Md] at h2;generalize (Q37 0 ops).1=pre at he2 h1 h2;generalize (Q37 0 ops).2=suf at he2 h1 h2;clear he;subst h1
    cases suf with
    | nil=>
     rw [Np];exact Qp (Q27 (dP:=Xu P Gl) (ih β r) (fun f a H kO kP hk he=>Qb3 hkn (ih PV) (ih AV) (ih (AV×List AObj)) hk he) hk pre tm H 0 [] he2)
    | cons c0 suf=>exact Qen h2 (Q27 (dP:=Xu P Gl) (ih β r) (fun f a H kO kP hk he=>Qb3 hkn (ih PV) (ih AV) (ih (AV×List AObj)) hk he) (fun tm' H' hv=>Q5o (ih β r) hk _ tm' H' hv) pre tm H 0 [] he2)
   simp only [Us] at he;split at he
   ·split at he
    ·split at he
     ·rename_i c0 suf2 hd;split at he
      ·rename_i hb;simp only [Z18,Lb] at hb;obtain ⟨b1,b2,b3,b4⟩:=hb;exact Qn6 _ _ hd b1 b2 b3 b4 (Q27 (dP:=Xu P Gl) (ih β r) (fun f a H kO kP hk he=>Qb3 hkn (ih PV) (ih AV) (ih (AV×List AObj)) hk he) (fun tm' H' hv=>Q5o (ih β r) hk _ tm' H' hv) _ tm H 0 [] he)
      exact old he
     exact old he
    exact old he
   ·exact old he

theorem Qk2 (hkn:KnowOk2 P Gl kn) {N d:Nat} {f:Nat} {args:List PV} {r:PV} (h:Q8n kn (Us kn Gl N d PV) f args=some r):Q8t P Gl f args r:=
 U6 hkn (Qjl hkn N d PV r) h
end
end
end Go.Av
