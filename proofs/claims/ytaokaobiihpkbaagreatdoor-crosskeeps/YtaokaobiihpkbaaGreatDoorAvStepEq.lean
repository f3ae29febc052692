/- Part of the proof of CrossKeeps: for every input the law returns true; no condition. -/
import Derived.Test.YtaokaobiihpkbaaGreatDoorAvStep
set_option linter.all false
namespace Go.Av
noncomputable section
universe u
section
variable {α:Type u} (E:Env α)
def fin (E:Env α) (hp:List AObj) (k:AV→List AObj → α):Option (AV×Eff) → α
 | some (v,e)=>k v (e.apply hp hp.length)
 | none=>E.fail
theorem Qhx (hp:List AObj) (k:AV→List AObj → α):fin E hp k none=E.fail:=rfl
theorem Qh8 (hp:List AObj) (k:AV→List AObj → α) (v:AV) (e:Eff):fin E hp k (some (v,e))=k v (e.apply hp hp.length):=rfl
theorem Gf {β:Type} (hp:List AObj) (k:AV→List AObj → α) (o:Option β) (f : β→Option (AV×Eff)):fin E hp k (o.bind f)=(match o with
  | some b=>fin E hp k (f b)
  | none=>E.fail):=by cases o<;>rfl
theorem Qsd {β:Type} (hp:List AObj) (k:AV→List AObj → α) (o:Option β) (f : β→AV×Eff):fin E hp k (o.map f)=(match o with
  | some b=>fin E hp k (some (f b))
  | none=>E.fail):=by cases o<;>rfl
theorem Q2x (hp:List AObj) (o:AObj):({ new:=some o }:Eff).apply hp hp.length=hp ++ [o]:=by simp [Eff.apply,plc]
theorem Q74 (hp:List AObj) (n:Nat) (a:Nat) (o:AObj):({ set:=some (a,o) }:Eff).apply hp n=hp.set a o:=by simp [Eff.apply]
theorem Qo4 (hp:List AObj) (a:Nat) (o o':AObj):({ set:=some (a,o),new:=some o' }:Eff).apply hp hp.length=hp.set a o ++ [o']:=by simp [Eff.apply,plc]
theorem Vu (hp:List AObj) (n:Nat):({}:Eff).apply hp n=hp:=rfl

theorem Qxq (hp:List AObj) (esz bytes:Nat) (s:AV) (new:List AV) (n:Nat) (k:AV→List AObj → α) :
  Qvf E hp esz bytes s new n k=fin E hp k (Qg7 hp hp.length esz bytes s new n):=by
 unfold Qvf Qg7
 by_cases hn:n=0
 ·subst hn;simp only [ifB,Ak]
  cases s with
  | p v=>cases v<;>rfl
  | _=>rfl
 ·have:Nat.beq n 0=false:=by cases n<;>first | rfl | simp_all
  simp only [this,ifB,hn,Al]
  cases s with
  | p v=>
   cases v<;>(try rfl) <;>
   (by_cases h3:(n+4096) * bytes≤17592186044416<;>simp [V7,Q6g,h3,fin,Q2x])
  | slice es a off len=>
   simp only [Q0z]
   cases h:hp[a]? with
   | none=>rfl
   | some o=>
    cases o<;>simp only [V7,Q2l,Q0v,Q7e,Q6g,fin]<;>(try rfl)
    by_cases h1:es=esz<;>rename_i cs<;>by_cases h2:off+len * esz=cs.length<;>by_cases h3:(len+n+4096) * bytes≤17592186044416<;>simp [h1,h2,h3,Qo4,List.length_set]
  | _=>rfl

theorem Qxp (hp:List AObj) (K:List AV → α) (v:AV):Z2v E hp K v=(match Qq9 hp v with
  | some new=>K new
  | none=>E.fail):=by
 unfold Z2v Qq9
 cases v<;>try rfl
 ·rename_i p;cases p<;>try rfl
  ·simp [Va]
  rename_i es rows;simp only [V7,Va]
  by_cases h0:es=1
  ·simp [h0]
  have:Nat.beq es 1=false:=by rw [← Nv,Bj];exact h0
  simp [h0,this]
 rename_i es b off n;simp only [Q0z,Q2l,V7,Q3i]
 cases hp[b]? with
 | none=>rfl
 | some o=>
  cases o<;>try rfl
  rename_i cs
  by_cases h0:es=1
  ·simp only [h0,Ak,Dd];cases Q35 n (cs.drop off)<;>rfl
  have:Nat.beq es 1=false:=by rw [← Nv,Bj];exact h0
  simp [h0,this]
theorem Qbf (tm:List AV) (hp:List AObj) (k:AV→List AObj → α) (esz bytes:Nat) (s x:Opd):Q7t E tm hp k esz bytes s x=fin E hp k (Qey hp hp.length esz bytes (Q6 tm s) (Q6 tm x)):=by
 simp only [Qey,Q7t,Z2,Q0z,V7,Qxq,Va,Q2l,Q3i]
 cases Q6 tm x<;>try rfl
 ·rename_i v;cases v<;>try rfl
  ·rename_i b
   by_cases h0:esz=1
   ·simp [h0]
   have:Nat.beq esz 1=false:=by rw [← Nv,Bj];exact h0
   simp [h0,this,Qhx]
  rename_i es rows
  by_cases h0:es=esz
  ·simp [h0]
  have:Nat.beq es esz=false:=by rw [← Nv,Bj];exact h0
  simp [h0,this,Qhx]
 rename_i es b off n;simp only []
 cases hp[b]? with
 | none=>rfl
 | some o=>
  cases o<;>try rfl
  rename_i cs
  by_cases h0:es=esz
  ·simp only [h0,Ak,Gf,Dd];cases Q35 (n * esz) (cs.drop off)<;>rfl
  have:Nat.beq es esz=false:=by rw [← Nv,Bj];exact h0
  simp [h0,this,Qhx]
theorem Qgd (tm:List AV) (hp:List AObj) (k:AV→List AObj → α) (esz:Nat) (x:Opd) (lo hi:Option Opd):Qcf E tm hp k esz x lo hi=fin E hp k (Qme esz (Q6 tm x) (lo.map (Q6 tm)) (hi.map (Q6 tm))):=by
 simp only [Qme,Qcf,Z2,Qgv,Qcp,V7]
 cases Q6 tm x<;>try rfl
 ·rename_i v;cases v<;>try rfl
  rename_i es s;simp only []
  cases Q88 0 (lo.map (Q6 tm))<;>try rfl
  rename_i l;simp only []
  cases Q88 s.length (hi.map (Q6 tm))<;>try rfl
  rename_i h
  by_cases h0:es=esz<;>by_cases h1:l≤h<;>by_cases h2:h≤s.length<;>simp [h0,h1,h2,fin,Qo,Vu]
 ·rename_i es a off s;simp only []
  cases Q88 0 (lo.map (Q6 tm))<;>try rfl
  rename_i l;simp only []
  cases Q88 s (hi.map (Q6 tm))<;>try rfl
  rename_i h
  by_cases h0:es=esz<;>by_cases h1:l≤h<;>by_cases h2:h≤s<;>simp [h0,h1,h2,fin,Qo,Vu]

theorem Qe1 (tm:List AV) (hp:List AObj) (k:AV→List AObj → α) (c:COp) (hc:c.isCall=false) :
  J9 E tm hp k c=fin E hp k (step E.glob tm hp hp.length c):=by
 cases c with
 | call f args=>cases hc
 | callv f args=>cases hc
 | move x=>simp only [J9,step,Qht,Z2];rfl
 | pick c a b=>
  simp only [J9,step,Qrs,Z2,Q17]
  cases Q6 tm c<;>try rfl
  rename_i v;cases v<;>try rfl
  rename_i b;cases b<;>rfl
 | alloc z=>simp only [J9,step,Qnm,Va,Q6g,Qh8,Q2x]
 | box x=>
  simp only [J9,step,Qvk,Z2,Qd5,Q6g,Qsd,Qh8,Q2x]
  cases (Q6 tm x).cells? <;> rfl
 | build z ps=>
  simp only [J9,step,Qm5,Va,Qgr,Gf];cases Q5w tm (z.map AV.p) ps<;>rfl
 | buildSlice z len esz ps=>
  simp only [J9,step,Q9p,Va,Qgr,Q6g,Qsd,Qh8,Q2x];cases Q5w tm ((List.replicate len z).flatten.map AV.p) ps<;>rfl
 | load n agg x=>
  simp only [J9,step,Qrj,Z2,Q96,Q3i,Q0w,Gf]
  cases Q0g E.glob hp (Q6 tm x) with
  | none=>rfl
  | some cs=>
   simp only []
   cases Q35 n cs with
   | none=>rfl
   | some cs=>simp only [];cases sOf agg cs<;>rfl
 | store n x y=>
  simp only [J9,step,Qmc,Z2,Q0z,Qd5,V7,Q8c,Q7e]
  cases Q6 tm x<;>try rfl
  rename_i a off;simp only []
  cases hp[a]? with
  | none=>rfl
  | some o=>
   cases o<;>try rfl
   rename_i cs;simp only []
   cases (Q6 tm y).cells? with
   | none=>rfl
   | some v=>
    simp only []
    by_cases h1:v.length=n<;>by_cases h2:off+n≤cs.length<;>simp [h1,h2,fin,Q74]
 | nilCheck x=>
  simp only [J9,step,Qd9,Z2]
  cases Q6 tm x<;>try rfl
  ·rename_i v;cases v<;>try rfl
   rename_i fn a b;cases fn<;>rfl
  rename_i fn a b;cases fn<;>rfl
 | ari op x y=>
  simp only [J9,step,Qvd,Z2]
  cases Q6 tm x<;>try rfl
  rename_i v
  cases v<;>try rfl
  ·simp only []
   cases Q6 tm y<;>try rfl
   rename_i v
   cases v<;>try rfl
   simp only [Qyl,V7];rename_i i x j y;cases Qg8 op i j
   ·rfl
   simp only [Ak,Gf];cases Qyh op i x y<;>rfl
  simp only []
  cases Q6 tm y<;>try rfl
  rename_i v
  cases v<;>try rfl
  cases op<;>try rfl
  simp only [V7];rename_i s t
  by_cases h:s.length+t.length≤4611686018427387904<;>simp [h,fin,Qo,Vu]
 | cmp op x y=>
  simp only [J9,step,Qvj,Z2,Gf,E.cmp.2,E.scmp.2]
  cases Q6 tm x<;>try rfl
  rename_i v
  cases v<;>try rfl
  ·simp only []
   cases Q6 tm y<;>try rfl
   rename_i v
   cases v<;>try rfl
   rename_i i x j y;simp only [V7,Z06];cases i == j<;>rfl
  simp only []
  cases Q6 tm y<;>try rfl
  rename_i v;cases v<;>rfl
 | eqB neg x y=>
  simp only [J9,step,Qvo,Z2]
  cases Q6 tm x<;>try rfl
  rename_i v
  cases v<;>try rfl
  simp only []
  cases Q6 tm y<;>try rfl
  rename_i v
  cases v<;>try rfl
  cases neg<;>rfl
 | eqP neg x y=>
  simp only [J9,step,Qvu,Z2]
  cases Q6 tm x<;>try rfl
  ·rename_i v
   cases v<;>try rfl
   simp only []
   cases Q6 tm y<;>try rfl
   rename_i v;cases v<;>rfl
  simp only []
  cases Q6 tm y<;>try rfl
  rename_i v;cases v<;>rfl
 | eqAgg neg kinds x y=>
  simp only [J9,step,Qmu,Z2,Qpq]
  cases (Q6 tm x).aggs? <;> try rfl
  simp only []
  cases (Q6 tm y).aggs? <;> try rfl
  simp only [Qg4,Gf,Q17];rename_i cs ds;cases X9 kinds cs ds<;>rfl
 | not x=>
  simp only [J9,step,Qvz,Z2];cases Q6 tm x<;>try rfl
  rename_i v;cases v<;>rfl
 | neg x=>
  simp only [J9,step,Qvw,Z2];cases Q6 tm x<;>try rfl
  rename_i v;cases v<;>rfl
 | conv i x=>
  simp only [J9,step,Qqp,Z2];cases Q6 tm x<;>try rfl
  rename_i v;cases v<;>rfl
 | bytesOf x=>
  simp only [J9,step,Qgb,Z2];cases Q6 tm x<;>try rfl
  rename_i v;cases v<;>try rfl
  simp only [Va,Q6g,fin,Q2x]
 | strOf x=>
  simp only [J9,step,Qn1,Z2,Q0z]
  cases Q6 tm x<;>try rfl
  ·rename_i v;cases v<;>rfl
  rename_i es a off len;simp only []
  cases hp[a]? with
  | none=>rfl
  | some o=>
   cases o<;>try rfl
   simp only [Q2l,Q3i,Qe8,Gf];rename_i cs
   cases Q35 len (cs.drop off) with
   | none=>rfl
   | some cs=>simp only [];cases Qnu cs<;>rfl
 | makeFunc fn a b=>simp only [J9,step,Qd1,Q0d];rfl
 | makeMap=>simp only [J9,step,Qgf,Q6g,fin,Q2x]
 | bad=>rfl
 | sliceZ x=>
  simp only [J9,step,Qii,Z2]
  cases Q6 tm x<;>try rfl
  rename_i v;cases v<;>rfl
 | eqN neg x=>
  simp only [J9,step,Qv4,Z2]
  cases Q6 tm x<;>try rfl
  ·rename_i v
   cases v<;>try rfl
   ·cases neg<;>rfl
   rename_i es rows;simp only [V7];cases rows.isEmpty<;>rfl
  rename_i es b off len;simp only [V7]
  by_cases h:0<len<;>simp [h,fin,Qo,Vu,Nat.blt_eq]
 | extIx x y=>
  simp only [J9,step,Qm8,Z2]
  cases Q6 tm x<;>try rfl
  rename_i v
  cases v<;>try (cases Q6 tm y<;>rfl)
  cases Q6 tm y<;>try rfl
  rename_i u
  cases u<;>try rfl
  rename_i s i c;simp only [V7];cases i == IntKind.u8<;>rfl
 | rangeS x=>
  simp only [J9,step,Qia,Z2]
  cases Q6 tm x<;>try rfl
  rename_i v
  cases v<;>try rfl
  simp only [Q6g,fin,Q2x]
 | nextS x=>
  simp only [J9,step,Qnb,Z2,Q0z]
  cases Q6 tm x<;>try rfl
  rename_i b o;simp only []
  cases hp[b]? with
  | none=>rfl
  | some ob=>
   cases ob<;>try rfl
   rename_i s pos;simp only [V7,Q7e,Q17]
   by_cases h0:o=0
   ·subst h0
    by_cases hl:pos<s.length
    ·simp [hl,fin,Q74,Nat.blt_eq]
    simp [hl,fin,Qo,Vu,Nat.blt_eq]
   simp [h0,fin]
 | runeStr x=>
  simp only [J9,step,Qg9,Z2]
  cases Q6 tm x<;>try rfl
  rename_i v;cases v<;>rfl
 | extCt x y=>
  simp only [J9,step,Qo1,Z2]
  cases Q6 tm x<;>try rfl
  rename_i v
  cases v<;>try (cases Q6 tm y<;>rfl)
  cases Q6 tm y<;>try rfl
  rename_i u
  cases u<;>try rfl
  rename_i s i c;simp only [V7];cases i == IntKind.u8<;>rfl
 | mkIface t x=>simp only [J9,step,Qft,Z2];rfl
 | asserT t z agg ok x=>
  simp only [J9,step,Qj4,Z2,Q17,V7,Va,Q0w]
  have key:∀ (u:Nat) (v:AV),(if Nat.beq u t=true then if ok=true then k (.tuple [v,.p (.bool true)]) hp else k v hp else if ok=true then (match sOf agg (z.map .p) with
     | some z=>k (.tuple [z,.p (.bool false)]) hp
     | none=>E.fail) else E.fail)=fin E hp k (if u=t then Qo (if ok then .tuple [v,.p (.bool true)] else v) else if ok=true then (sOf agg (z.map .p)).bind fun z=>Qo (.tuple [z,.p (.bool false)]) else none):=by
   intro u v
   by_cases hu:u=t
   ·subst hu;cases ok<;>simp [fin,Qo,Vu]
   have:Nat.beq u t=false:=by rw [← Nv,Bj];exact hu
   simp only [this,hu,Al,Ll];cases ok
   ·rfl
   simp only [Ak,Gf];cases sOf agg (z.map .p)<;>rfl
  cases Q6 tm x<;>try rfl
  ·rename_i v
   cases v<;>try rfl
   exact key _ _
  exact key _ _
 | eqI neg x=>
  simp only [J9,step,Qv9,Z2]
  cases Q6 tm x<;>try rfl
  rename_i v
  cases v<;>first | rfl | (cases neg<;>rfl)
 | eqF neg x=>
  simp only [J9,step,Qw2,Z2]
  cases Q6 tm x<;>try rfl
  rename_i v
  cases v<;>first | rfl | (cases neg<;>rfl)
 | del kk m ke=>
  simp only [J9,step,Qw4,Z2,Q0z]
  cases Q6 tm m<;>try rfl
  rename_i r;cases Q6 tm ke
  case p kv=>
   simp only []
   cases h:hp[r]? with
   | none=>rfl
   | some o=>
    cases o<;>try rfl
    rename_i es;simp only [Q3j,V7]
    cases Q24 kk kv with
    | false=>rfl
    | true=>
     simp only [Ak,Bk,Al]
     cases Gi kv 0 es with
     | none=>rfl
     | some r=>cases r<;>simp [Q7e,fin,Q74,Qo,Vu]
  all_goals
   simp only []
   cases h:hp[r]? with
   | none=>rfl
   | some o=>cases o<;>rfl
 | insert kk m ke v=>
  simp only [J9,step,Qjw,Z2,Q0z]
  cases Q6 tm m<;>try rfl
  rename_i r;cases Q6 tm ke
  case p kv=>
   simp only []
   cases h:hp[r]? with
   | none=>rfl
   | some o=>
    cases o<;>try rfl
    rename_i es;simp only [Q3j,V7]
    cases Q24 kk kv with
    | false=>rfl
    | true=>
     simp only [Ak,Bk,Al]
     cases Gi kv 0 es with
     | none=>rfl
     | some r=>cases r<;>simp [Q7e,Q0v,fin,Q74]
  all_goals
   simp only []
   cases h:hp[r]? with
   | none=>rfl
   | some o=>cases o<;>rfl
 | lookup kk z agg ok m ke=>
  simp only [J9,step,Qkf,Z2,Q0z];cases Q6 tm m
  case map r=>
   cases Q6 tm ke
   case p kv=>
    simp only []
    cases h:hp[r]? with
    | none=>rfl
    | some o=>
     cases o<;>try rfl
     rename_i es;simp only [Q3j,V7]
     cases Q24 kk kv with
     | false=>rfl
     | true=>
      simp only [Ak,Bk,Al]
      cases Gi kv 0 es with
      | none=>rfl
      | some r=>
       cases r with
       | none=>
        simp only [Va,Q0w,Gf];cases sOf agg (z.map AV.p)<;>cases ok<;>rfl
       | some r=>cases ok<;>rfl
   all_goals
    simp only []
    cases h:hp[r]? with
    | none=>rfl
    | some o=>cases o<;>rfl
  case p mv=>
   cases mv<;>try (cases Q6 tm ke<;>rfl)
   rename_i ps
   cases Q6 tm ke<;>try rfl
   rename_i kv;simp only [V7,Qhg]
   cases Q24 kk kv with
   | false=>rfl
   | true=>
    simp only [Ak,Bk,Al]
    cases Qih kv ps with
    | none=>rfl
    | some r=>
     cases r with
     | none=>
      simp only [Va,Q0w,Gf];cases sOf agg (z.map AV.p)<;>cases ok<;>rfl
     | some r=>cases ok<;>rfl
  all_goals (cases Q6 tm ke<;>rfl)
 | makeSlice z bytes l c=>
  simp only [J9,step,Qbg,Z2]
  cases Q6 tm l<;>try rfl
  rename_i v;cases v<;>try rfl
  simp only []
  cases Q6 tm c<;>try rfl
  rename_i v;cases v<;>try rfl
  simp only [V7,Va,Q6g];rename_i l _ c
  by_cases h1:0≤l<;>by_cases h2:l≤c<;>by_cases h3:c * bytes≤1099511627776<;>simp [h1,h2,h3,fin,Q2x]
 | sliceStr x lo hi=>
  simp only [J9,step,Qcr,Z2,Qgv,Qcp,V7]
  cases Q6 tm x<;>try rfl
  rename_i v;cases v<;>try rfl
  rename_i s;simp only []
  cases Q88 0 (lo.map (Q6 tm))<;>try rfl
  rename_i l;simp only []
  cases Q88 s.length (hi.map (Q6 tm))<;>try rfl
  rename_i h
  by_cases h1:l≤h<;>by_cases h2:h≤s.length<;>simp [h1,h2,fin,Qo,Vu]
 | slice esz x lo hi=>exact Qgd E tm hp k esz x lo hi
 | slice3 esz x lo hi mx=>
  simp only [J9,step,Qjy,Qgv,Qcp,V7,Qgd]
  cases Q88 0 (hi.map (Q6 tm))<;>try rfl
  rename_i h;simp only []
  cases Q88 0 (mx.map (Q6 tm))<;>try rfl
  rename_i m
  by_cases h0:h=m<;>simp [h0,fin]
 | sliceArr n esz x lo hi=>
  simp only [J9,step,Qe0,Z2,Qgv,Qcp,V7,Q0z]
  cases Q6 tm x<;>try rfl
  rename_i a off;simp only []
  cases hp[a]? with
  | none=>rfl
  | some o=>
   cases o<;>try rfl
   rename_i cs;simp only []
   cases Q88 0 (lo.map (Q6 tm))<;>try rfl
   rename_i l;simp only []
   cases Q88 n (hi.map (Q6 tm))<;>try rfl
   rename_i h
   by_cases h0:off+n * esz≤cs.length<;>by_cases h1:l≤h<;>by_cases h2:h≤n<;>simp [h0,h1,h2,fin,Qo,Vu]
 | fieldAddr x off=>simp only [J9,step,Qbq,Z2,Q2l];cases Q6 tm x<;>rfl
 | field x off n agg=>
  simp only [J9,step,Qng,Z2,Qpq]
  cases (Q6 tm x).aggs? <;> try rfl
  simp only [Q2l,Q3i,Q0w,Gf];rename_i cs
  cases Q35 n (cs.drop off) with
  | none=>rfl
  | some cs=>simp only [];cases sOf agg cs<;>rfl
 | indexAddr esz x i=>
  simp only [J9,step,Qbp,Z2,V7,Qsr]
  cases Q6 tm x<;>try rfl
  ·rename_i v;cases v<;>try rfl
   simp only []
   cases Q6 tm i<;>try rfl
   rename_i v;cases v<;>try rfl
   rename_i es rows _ n
   by_cases h0:es=esz<;>cases hi:idx rows n<;>simp [h0,hi,fin,Qo,Vu]
  simp only []
  cases Q6 tm i<;>try rfl
  rename_i v;cases v<;>try rfl
  rename_i es a off len _ n
  by_cases h1:0≤n<;>by_cases h2:n<len<;>simp [h1,h2,fin,Qo,Vu]
 | indexArr len esz x i=>
  simp only [J9,step,Qee,Z2,V7]
  cases Q6 tm x<;>try rfl
  all_goals
   simp only []
   cases Q6 tm i<;>try rfl
   rename_i v;cases v<;>try rfl
   rename_i n
   by_cases h1:0≤n<;>by_cases h2:n<len<;>simp [h1,h2,fin,Qo,Vu]
 | indexStr x i=>
  simp only [J9,step,Qev,Z2,Qsr]
  cases Q6 tm x<;>try rfl
  rename_i v;cases v<;>try rfl
  simp only []
  cases Q6 tm i<;>try rfl
  rename_i v;cases v<;>try rfl
  simp only [Gf];rename_i s _ n;cases idx s n<;>rfl
 | extract x i=>
  simp only [J9,step,Q80,Z2]
  cases Q6 tm x<;>try rfl
  ·rename_i v;cases v<;>try rfl
   rename_i vs;simp only [Gf];cases vs[i]? <;> rfl
  rename_i vs;simp only [Gf];cases vs[i]? <;> rfl
 | lenStr x=>
  simp only [J9,step,Qiw,Z2]
  cases Q6 tm x<;>try rfl
  rename_i v;cases v<;>rfl
 | lenSl x=>
  simp only [J9,step,Qnw,Z2]
  cases Q6 tm x<;>try rfl
  rename_i v;cases v<;>rfl
 | lenMap x=>
  simp only [J9,step,Qig,Z2,Q0z]
  cases Q6 tm x<;>try rfl
  ·rename_i v;cases v<;>rfl
  rename_i r;simp only []
  cases hp[r]? with
  | none=>rfl
  | some o=>cases o<;>rfl
 | append esz bytes s x=>simp only [J9,step];exact Qbf ..
 | appendT esz bytes s x=>
  simp only [J9,step,Qfj,Z2,Qbf,Qky]
  cases hs:Q6 tm s<;>try rfl
  rename_i es a off len;simp only [Q0z,V7,Qaf,Q7e]
  cases hp[a]? with
  | none=>rfl
  | some o=>
   cases o<;>try rfl
   rename_i cs;simp only []
   by_cases h0:off+len * esz≤cs.length
   ·have h1:Nat.ble (off+len * esz) cs.length=true:=by simpa using h0
    rw [h1,Af h0,Af rfl];rw [Mt]
    cases hq:Qey (hp.set a (.cells (cs.take (off+len * esz)))) hp.length esz bytes (.slice es a off len) (Q6 tm x) with
    | none=>rfl
    | some q=>
     obtain ⟨v,e⟩:=q;show k v (e.apply (hp.set a (.cells (cs.take (off+len * esz)))) (hp.set a (.cells (cs.take (off+len * esz)))).length)=k v ((e.pre a (.cells (cs.take (off+len * esz)))).apply hp hp.length);rw [Qjf (Qle hq),Mt]
   have h1:Nat.ble (off+len * esz) cs.length=false:=by rw [← Nv,Lu];exact h0
   rw [h1,Ae h0];rfl
 | copyB d s=>
  have hc:∀ new,(match Q6 tm d with
    | .p .nilSlice=>k (.p (.int .i64 0)) hp
    | .slice es a off len=>Qjj E hp a fun
     | .cells cs=>chk E (Nat.beq es 1&&(Nat.ble (off+len) cs.length&&Nat.ble 1 len))
      (Qi6 len new cs off fun n cs=>Qpk hp a (.cells cs) fun hp=>k (.p (.int .i64 n)) hp)
     | _=>E.fail
    | _=>E.fail)=fin E hp k (Ql2 hp (Q6 tm d) new):=fun new=>by
   simp only [Q0z,V7,Qi6,Qaf,Qhw,Q8c,Q7e,Ql2]
   cases Q6 tm d<;>try rfl
   ·rename_i v;cases v<;>rfl
   rename_i es a off len;simp only []
   cases hp[a]? with
   | none=>rfl
   | some o=>
    cases o<;>try rfl
    rename_i cs;simp only []
    by_cases h1:es=1<;>by_cases h2:off+len≤cs.length<;>by_cases h3:1≤len<;>simp [h1,h2,h3,fin,Q74]<;>omega
  simp only [J9,step,Qny,Z2,Qxp]
  cases Qq9 hp (Q6 tm s) with
  | none=>rfl
  | some new=>exact hc new
 | max x y=>
  simp only [J9,step,Qvx,Z2,Q17]
  cases Q6 tm x<;>try rfl
  rename_i v;cases v<;>try rfl
  simp only []
  cases Q6 tm y<;>try rfl
  rename_i v;cases v<;>try rfl
  simp [fin,Qo,Vu]
 | min x y=>
  simp only [J9,step,Qvi,Z2,Q17]
  cases Q6 tm x<;>try rfl
  rename_i v;cases v<;>try rfl
  simp only []
  cases Q6 tm y<;>try rfl
  rename_i v;cases v<;>try rfl
  simp [fin,Qo,Vu]
end
end
end Go.Av
