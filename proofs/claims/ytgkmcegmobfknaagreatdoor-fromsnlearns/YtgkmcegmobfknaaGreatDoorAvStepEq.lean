/- Part of FromsnLearns: the law returns true; no condition. -/
import Derived.Test.YtgkmcegmobfknaaGreatDoorAvStep
set_option linter.all false
namespace Go.Av
noncomputable section
universe u
section
variable {α:Type u} (E:Env α)
def fin (E:Env α) (hp:List AObj) (k:AV->List AObj->α):Option (AV×Eff)->α
 | some (v,e)=>k v (e.apply hp hp.length)
 | none=>E.fail
theorem Qf0 (hp:List AObj) (k:AV->List AObj->α):fin E hp k none=E.fail:=rfl
theorem Qfi (hp:List AObj) (k:AV->List AObj->α) (v:AV) (e:Eff):fin E hp k (some (v,e))=k v (e.apply hp hp.length):=rfl
theorem Jo {β:Type} (hp:List AObj) (k:AV->List AObj->α) (o:Option β) (f : β->Option (AV×Eff)):fin E hp k (o.bind f)=(match o with
  | some b=>fin E hp k (f b)
  | none=>E.fail):=by cases o<;>rfl
theorem Qo6 {β:Type} (hp:List AObj) (k:AV->List AObj->α) (o:Option β) (f : β->AV×Eff):fin E hp k (o.map f)=(match o with
  | some b=>fin E hp k (some (f b))
  | none=>E.fail):=by cases o<;>rfl
theorem Q1g (hp:List AObj) (o:AObj):({ new:=some o }:Eff).apply hp hp.length=hp ++ [o]:=by simp [Eff.apply,plc]
theorem Q4z (hp:List AObj) (n:Nat) (a:Nat) (o:AObj):({ set:=some (a,o) }:Eff).apply hp n=hp.set a o:=by simp [Eff.apply]
theorem Qli (hp:List AObj) (a:Nat) (o o':AObj):({ set:=some (a,o),new:=some o' }:Eff).apply hp hp.length=hp.set a o ++ [o']:=by simp [Eff.apply,plc]
theorem Va (hp:List AObj) (n:Nat):({}:Eff).apply hp n=hp:=rfl

theorem Qve (hp:List AObj) (esz bytes:Nat) (s:AV) (new:List AV) (n:Nat) (k:AV->List AObj->α) :
  Quy E hp esz bytes s new n k=fin E hp k (Qcr hp hp.length esz bytes s new n):=by
 unfold Quy Qcr
 by_cases hn:n=0
 ·subst hn;simp only [ifB,Ak]
  cases s with
  | p v=>cases v<;>rfl
  | _=>rfl
 ·have:Nat.beq n 0=false:=by cases n<;>first | rfl | simp_all
  simp only [this,ifB,hn,Al]
  cases s with
  | p v=>
   cases v<;>(try rfl) <;>
   (by_cases h3:(n+4096) * bytes≤17592186044416<;>simp [V8,Q3s,h3,fin,Q1g])
  | slice es a off len=>
   simp only [Gq]
   cases h:hp[a]? with
   | none=>rfl
   | some o=>
    cases o<;>simp only [V8,Gh,Gi,Q4w,Q3s,fin]<;>(try rfl)
    by_cases h1:es=esz<;>rename_i cs<;>by_cases h2:off+len * esz=cs.length<;>by_cases h3:(len+n+4096) * bytes≤17592186044416<;>simp [h1,h2,h3,Qli,List.length_set]
  | _=>rfl

theorem Qw1 (hp:List AObj) (K:List AV->α) (v:AV):Z2g E hp K v=(match Qq2 hp v with
  | some new=>K new
  | none=>E.fail):=by
 unfold Z2g Qq2
 cases v<;>try rfl
 ·rename_i p;cases p<;>try rfl
  ·simp [Wt]
  rename_i es rows;simp only [V8,Wt]
  by_cases h0:es=1
  ·simp [h0]
  have:Nat.beq es 1=false:=by rw [← Ny,Bv];exact h0
  simp [h0,this]
 rename_i es b off n;simp only [Gq,Gh,V8,Q07]
 cases hp[b]? with
 | none=>rfl
 | some o=>
  cases o<;>try rfl
  rename_i cs
  by_cases h0:es=1
  ·simp only [h0,Ak,Eb];cases Q1b n (cs.drop off)<;>rfl
  have:Nat.beq es 1=false:=by rw [← Ny,Bv];exact h0
  simp [h0,this]
theorem Q8z (tm:List AV) (hp:List AObj) (k:AV->List AObj->α) (esz bytes:Nat) (s x:Opd):Q4q E tm hp k esz bytes s x=fin E hp k (Qc4 hp hp.length esz bytes (Q4 tm s) (Q4 tm x)):=by
 simp only [Qc4,Q4q,Z1,Gq,V8,Qve,Wt,Gh,Q07]
 cases Q4 tm x<;>try rfl
 ·rename_i v;cases v<;>try rfl
  ·rename_i b
   by_cases h0:esz=1
   ·simp [h0]
   have:Nat.beq esz 1=false:=by rw [← Ny,Bv];exact h0
   simp [h0,this,Qf0]
  rename_i es rows
  by_cases h0:es=esz
  ·simp [h0]
  have:Nat.beq es esz=false:=by rw [← Ny,Bv];exact h0
  simp [h0,this,Qf0]
 rename_i es b off n;simp only []
 cases hp[b]? with
 | none=>rfl
 | some o=>
  cases o<;>try rfl
  rename_i cs
  by_cases h0:es=esz
  ·simp only [h0,Ak,Jo,Eb];cases Q1b (n * esz) (cs.drop off)<;>rfl
  have:Nat.beq es esz=false:=by rw [← Ny,Bv];exact h0
  simp [h0,this,Qf0]
theorem Qdg (tm:List AV) (hp:List AObj) (k:AV->List AObj->α) (esz:Nat) (x:Opd) (lo hi:Option Opd):Q9t E tm hp k esz x lo hi=fin E hp k (Qjo esz (Q4 tm x) (lo.map (Q4 tm)) (hi.map (Q4 tm))):=by
 simp only [Qjo,Q9t,Z1,Qfd,Qa1,V8]
 cases Q4 tm x<;>try rfl
 ·rename_i v;cases v<;>try rfl
  rename_i es s;simp only []
  cases Q5e 0 (lo.map (Q4 tm))<;>try rfl
  rename_i l;simp only []
  cases Q5e s.length (hi.map (Q4 tm))<;>try rfl
  rename_i h
  by_cases h0:es=esz<;>by_cases h1:l≤h<;>by_cases h2:h≤s.length<;>simp [h0,h1,h2,fin,Qk,Va]
 ·rename_i es a off s;simp only []
  cases Q5e 0 (lo.map (Q4 tm))<;>try rfl
  rename_i l;simp only []
  cases Q5e s (hi.map (Q4 tm))<;>try rfl
  rename_i h
  by_cases h0:es=esz<;>by_cases h1:l≤h<;>by_cases h2:h≤s<;>simp [h0,h1,h2,fin,Qk,Va]

theorem Qaz (tm:List AV) (hp:List AObj) (k:AV->List AObj->α) (c:COp) (hc:c.isCall=false) :
  Ux E tm hp k c=fin E hp k (step E.glob tm hp hp.length c):=by
 cases c with
 | call f args=>cases hc
 | callv f args=>cases hc
 | move x=>simp only [Ux,step,Qex,Z1];rfl
 | pick c a b=>
  simp only [Ux,step,Qp2,Z1,Gx]
  cases Q4 tm c<;>try rfl
  rename_i v;cases v<;>try rfl
  rename_i b;cases b<;>rfl
 | alloc z=>simp only [Ux,step,Qlf,Wt,Q3s,Qfi,Q1g]
 | box x=>
  simp only [Ux,step,Qu7,Z1,Qag,Q3s,Qo6,Qfi,Q1g]
  cases (Q4 tm x).cells? <;> rfl
 | build z ps=>
  simp only [Ux,step,Qjl,Wt,Qee,Jo];cases Q3v tm (z.map AV.p) ps<;>rfl
 | buildSlice z len esz ps=>
  simp only [Ux,step,Q71,Wt,Qee,Q3s,Qo6,Qfi,Q1g];cases Q3v tm ((List.replicate len z).flatten.map AV.p) ps<;>rfl
 | load n agg x=>
  simp only [Ux,step,Qqk,Z1,Q1z,Q07,Jc,Jo]
  cases Ju E.glob hp (Q4 tm x) with
  | none=>rfl
  | some cs=>
   simp only []
   cases Q1b n cs with
   | none=>rfl
   | some cs=>simp only [];cases sOf agg cs<;>rfl
 | store n x y=>
  simp only [Ux,step,Ql0,Z1,Gq,Qag,V8,Q5b,Q4w]
  cases Q4 tm x<;>try rfl
  rename_i a off;simp only []
  cases hp[a]? with
  | none=>rfl
  | some o=>
   cases o<;>try rfl
   rename_i cs;simp only []
   cases (Q4 tm y).cells? with
   | none=>rfl
   | some v=>
    simp only []
    by_cases h1:v.length=n<;>by_cases h2:off+n≤cs.length<;>simp [h1,h2,fin,Q4z]
 | nilCheck x=>
  simp only [Ux,step,Qbr,Z1]
  cases Q4 tm x<;>try rfl
  ·rename_i v;cases v<;>try rfl
   rename_i fn a b;cases fn<;>rfl
  rename_i fn a b;cases fn<;>rfl
 | ari op x y=>
  simp only [Ux,step,Qtn,Z1]
  cases Q4 tm x<;>try rfl
  rename_i v
  cases v<;>try rfl
  ·simp only []
   cases Q4 tm y<;>try rfl
   rename_i v
   cases v<;>try rfl
   simp only [Qvc,V8];rename_i i x j y;cases Qcw op i j
   ·rfl
   simp only [Ak,Jo];cases Qw8 op i x y<;>rfl
  simp only []
  cases Q4 tm y<;>try rfl
  rename_i v
  cases v<;>try rfl
  cases op<;>try rfl
  simp only [V8];rename_i s t
  by_cases h:s.length+t.length≤4611686018427387904<;>simp [h,fin,Qk,Va]
 | cmp op x y=>
  simp only [Ux,step,Qtq,Z1,Jo,E.cmp.2,E.scmp.2]
  cases Q4 tm x<;>try rfl
  rename_i v
  cases v<;>try rfl
  ·simp only []
   cases Q4 tm y<;>try rfl
   rename_i v
   cases v<;>try rfl
   rename_i i x j y;simp only [V8,Qzc];cases i == j<;>rfl
  simp only []
  cases Q4 tm y<;>try rfl
  rename_i v;cases v<;>rfl
 | eqB neg x y=>
  simp only [Ux,step,Qts,Z1]
  cases Q4 tm x<;>try rfl
  rename_i v
  cases v<;>try rfl
  simp only []
  cases Q4 tm y<;>try rfl
  rename_i v
  cases v<;>try rfl
  cases neg<;>rfl
 | eqP neg x y=>
  simp only [Ux,step,Quq,Z1]
  cases Q4 tm x<;>try rfl
  ·rename_i v
   cases v<;>try rfl
   simp only []
   cases Q4 tm y<;>try rfl
   rename_i v;cases v<;>rfl
  simp only []
  cases Q4 tm y<;>try rfl
  rename_i v;cases v<;>rfl
 | eqAgg neg kinds x y=>
  simp only [Ux,step,Qjy,Z1,Qpi]
  cases (Q4 tm x).aggs? <;> try rfl
  simp only []
  cases (Q4 tm y).aggs? <;> try rfl
  simp only [Qm3,Jo,Gx];rename_i cs ds;cases X8 kinds cs ds<;>rfl
 | not x=>
  simp only [Ux,step,Qto,Z1];cases Q4 tm x<;>try rfl
  rename_i v;cases v<;>rfl
 | neg x=>
  simp only [Ux,step,Quu,Z1];cases Q4 tm x<;>try rfl
  rename_i v;cases v<;>rfl
 | conv i x=>
  simp only [Ux,step,Qqf,Z1];cases Q4 tm x<;>try rfl
  rename_i v;cases v<;>rfl
 | bytesOf x=>
  simp only [Ux,step,Qd9,Z1];cases Q4 tm x<;>try rfl
  rename_i v;cases v<;>try rfl
  simp only [Wt,Q3s,fin,Q1g]
 | strOf x=>
  simp only [Ux,step,Qk8,Z1,Gq]
  cases Q4 tm x<;>try rfl
  ·rename_i v;cases v<;>rfl
  rename_i es a off len;simp only []
  cases hp[a]? with
  | none=>rfl
  | some o=>
   cases o<;>try rfl
   simp only [Gh,Q07,Qbd,Jo];rename_i cs
   cases Q1b len (cs.drop off) with
   | none=>rfl
   | some cs=>simp only [];cases Qka cs<;>rfl
 | makeFunc fn a b=>simp only [Ux,step,Qal,J7];rfl
 | makeMap=>simp only [Ux,step,Qd7,Q3s,fin,Q1g]
 | bad=>rfl
 | sliceZ x=>
  simp only [Ux,step,Qg0,Z1]
  cases Q4 tm x<;>try rfl
  rename_i v;cases v<;>rfl
 | eqN neg x=>
  simp only [Ux,step,Qum,Z1]
  cases Q4 tm x<;>try rfl
  ·rename_i v
   cases v<;>try rfl
   ·cases neg<;>rfl
   rename_i es rows;simp only [V8];cases rows.isEmpty<;>rfl
  rename_i es b off len;simp only [V8]
  by_cases h:0<len<;>simp [h,fin,Qk,Va,Nat.blt_eq]
 | extIx x y=>
  simp only [Ux,step,Qk2,Z1]
  cases Q4 tm x<;>try rfl
  rename_i v
  cases v<;>try (cases Q4 tm y<;>rfl)
  cases Q4 tm y<;>try rfl
  rename_i u
  cases u<;>try rfl
  rename_i s i c;simp only [V8];cases i == IntKind.u8<;>rfl
 | rangeS x=>
  simp only [Ux,step,Qgo,Z1]
  cases Q4 tm x<;>try rfl
  rename_i v
  cases v<;>try rfl
  simp only [Q3s,fin,Q1g]
 | nextS x=>
  simp only [Ux,step,Qk3,Z1,Gq]
  cases Q4 tm x<;>try rfl
  rename_i b o;simp only []
  cases hp[b]? with
  | none=>rfl
  | some ob=>
   cases ob<;>try rfl
   rename_i s pos;simp only [V8,Q4w,Gx]
   by_cases h0:o=0
   ·subst h0
    by_cases hl:pos<s.length
    ·simp [hl,fin,Q4z,Nat.blt_eq]
    simp [hl,fin,Qk,Va,Nat.blt_eq]
   simp [h0,fin]
 | runeStr x=>
  simp only [Ux,step,Qdw,Z1]
  cases Q4 tm x<;>try rfl
  rename_i v;cases v<;>rfl
 | extCt x y=>
  simp only [Ux,step,Qkf,Z1]
  cases Q4 tm x<;>try rfl
  rename_i v
  cases v<;>try (cases Q4 tm y<;>rfl)
  cases Q4 tm y<;>try rfl
  rename_i u
  cases u<;>try rfl
  rename_i s i c;simp only [V8];cases i == IntKind.u8<;>rfl
 | mkIface t x=>simp only [Ux,step,Qdf,Z1];rfl
 | asserT t z agg ok x=>
  simp only [Ux,step,Qfy,Z1,Gx,V8,Wt,Jc]
  have key:∀ (u:Nat) (v:AV),(if Nat.beq u t=true then if ok=true then k (.tuple [v,.p (.bool true)]) hp else k v hp else if ok=true then (match sOf agg (z.map .p) with
     | some z=>k (.tuple [z,.p (.bool false)]) hp
     | none=>E.fail) else E.fail)=fin E hp k (if u=t then Qk (if ok then .tuple [v,.p (.bool true)] else v) else if ok=true then (sOf agg (z.map .p)).bind fun z=>Qk (.tuple [z,.p (.bool false)]) else none):=by
   intro u v
   by_cases hu:u=t
   ·subst hu;cases ok<;>simp [fin,Qk,Va]
   have:Nat.beq u t=false:=by rw [← Ny,Bv];exact hu
   simp only [this,hu,Al,Mc];cases ok
   ·rfl
   simp only [Ak,Jo];cases sOf agg (z.map .p)<;>rfl
  cases Q4 tm x<;>try rfl
  ·rename_i v
   cases v<;>try rfl
   exact key _ _
  exact key _ _
 | eqI neg x=>
  simp only [Ux,step,Quw,Z1]
  cases Q4 tm x<;>try rfl
  rename_i v
  cases v<;>first | rfl | (cases neg<;>rfl)
 | eqF neg x=>
  simp only [Ux,step,Quj,Z1]
  cases Q4 tm x<;>try rfl
  rename_i v
  cases v<;>first | rfl | (cases neg<;>rfl)
 | del kk m ke=>
  simp only [Ux,step,Quk,Z1,Gq]
  cases Q4 tm m<;>try rfl
  rename_i r;cases Q4 tm ke
  case p kv=>
   simp only []
   cases h:hp[r]? with
   | none=>rfl
   | some o=>
    cases o<;>try rfl
    rename_i es;simp only [Q1o,V8]
    cases Q0w kk kv with
    | false=>rfl
    | true=>
     simp only [Ak,Bw,Al]
     cases Jq kv 0 es with
     | none=>rfl
     | some r=>cases r<;>simp [Q4w,fin,Q4z,Qk,Va]
  all_goals
   simp only []
   cases h:hp[r]? with
   | none=>rfl
   | some o=>cases o<;>rfl
 | insert kk m ke v=>
  simp only [Ux,step,Qgc,Z1,Gq]
  cases Q4 tm m<;>try rfl
  rename_i r;cases Q4 tm ke
  case p kv=>
   simp only []
   cases h:hp[r]? with
   | none=>rfl
   | some o=>
    cases o<;>try rfl
    rename_i es;simp only [Q1o,V8]
    cases Q0w kk kv with
    | false=>rfl
    | true=>
     simp only [Ak,Bw,Al]
     cases Jq kv 0 es with
     | none=>rfl
     | some r=>cases r<;>simp [Q4w,Gi,fin,Q4z]
  all_goals
   simp only []
   cases h:hp[r]? with
   | none=>rfl
   | some o=>cases o<;>rfl
 | lookup kk z agg ok m ke=>
  simp only [Ux,step,Qg8,Z1,Gq];cases Q4 tm m
  case map r=>
   cases Q4 tm ke
   case p kv=>
    simp only []
    cases h:hp[r]? with
    | none=>rfl
    | some o=>
     cases o<;>try rfl
     rename_i es;simp only [Q1o,V8]
     cases Q0w kk kv with
     | false=>rfl
     | true=>
      simp only [Ak,Bw,Al]
      cases Jq kv 0 es with
      | none=>rfl
      | some r=>
       cases r with
       | none=>
        simp only [Wt,Jc,Jo];cases sOf agg (z.map AV.p)<;>cases ok<;>rfl
       | some r=>cases ok<;>rfl
   all_goals
    simp only []
    cases h:hp[r]? with
    | none=>rfl
    | some o=>cases o<;>rfl
  case p mv=>
   cases mv<;>try (cases Q4 tm ke<;>rfl)
   rename_i ps
   cases Q4 tm ke<;>try rfl
   rename_i kv;simp only [V8,Qyl]
   cases Q0w kk kv with
   | false=>rfl
   | true=>
    simp only [Ak,Bw,Al]
    cases Qgb kv ps with
    | none=>rfl
    | some r=>
     cases r with
     | none=>
      simp only [Wt,Jc,Jo];cases sOf agg (z.map AV.p)<;>cases ok<;>rfl
     | some r=>cases ok<;>rfl
  all_goals (cases Q4 tm ke<;>rfl)
 | makeSlice z bytes l c=>
  simp only [Ux,step,Q96,Z1]
  cases Q4 tm l<;>try rfl
  rename_i v;cases v<;>try rfl
  simp only []
  cases Q4 tm c<;>try rfl
  rename_i v;cases v<;>try rfl
  simp only [V8,Wt,Q3s];rename_i l _ c
  by_cases h1:0≤l<;>by_cases h2:l≤c<;>by_cases h3:c * bytes≤1099511627776<;>simp [h1,h2,h3,fin,Q1g]
 | sliceStr x lo hi=>
  simp only [Ux,step,Qah,Z1,Qfd,Qa1,V8]
  cases Q4 tm x<;>try rfl
  rename_i v;cases v<;>try rfl
  rename_i s;simp only []
  cases Q5e 0 (lo.map (Q4 tm))<;>try rfl
  rename_i l;simp only []
  cases Q5e s.length (hi.map (Q4 tm))<;>try rfl
  rename_i h
  by_cases h1:l≤h<;>by_cases h2:h≤s.length<;>simp [h1,h2,fin,Qk,Va]
 | slice esz x lo hi=>exact Qdg E tm hp k esz x lo hi
 | slice3 esz x lo hi mx=>
  simp only [Ux,step,Qhh,Qfd,Qa1,V8,Qdg]
  cases Q5e 0 (hi.map (Q4 tm))<;>try rfl
  rename_i h;simp only []
  cases Q5e 0 (mx.map (Q4 tm))<;>try rfl
  rename_i m
  by_cases h0:h=m<;>simp [h0,fin]
 | sliceArr n esz x lo hi=>
  simp only [Ux,step,Qad,Z1,Qfd,Qa1,V8,Gq]
  cases Q4 tm x<;>try rfl
  rename_i a off;simp only []
  cases hp[a]? with
  | none=>rfl
  | some o=>
   cases o<;>try rfl
   rename_i cs;simp only []
   cases Q5e 0 (lo.map (Q4 tm))<;>try rfl
   rename_i l;simp only []
   cases Q5e n (hi.map (Q4 tm))<;>try rfl
   rename_i h
   by_cases h0:off+n * esz≤cs.length<;>by_cases h1:l≤h<;>by_cases h2:h≤n<;>simp [h0,h1,h2,fin,Qk,Va]
 | fieldAddr x off=>simp only [Ux,step,Q9b,Z1,Gh];cases Q4 tm x<;>rfl
 | field x off n agg=>
  simp only [Ux,step,Qk9,Z1,Qpi]
  cases (Q4 tm x).aggs? <;> try rfl
  simp only [Gh,Q07,Jc,Jo];rename_i cs
  cases Q1b n (cs.drop off) with
  | none=>rfl
  | some cs=>simp only [];cases sOf agg cs<;>rfl
 | indexAddr esz x i=>
  simp only [Ux,step,Q91,Z1,V8,Qtg]
  cases Q4 tm x<;>try rfl
  ·rename_i v;cases v<;>try rfl
   simp only []
   cases Q4 tm i<;>try rfl
   rename_i v;cases v<;>try rfl
   rename_i es rows _ n
   by_cases h0:es=esz<;>cases hi:idx rows n<;>simp [h0,hi,fin,Qk,Va]
  simp only []
  cases Q4 tm i<;>try rfl
  rename_i v;cases v<;>try rfl
  rename_i es a off len _ n
  by_cases h1:0≤n<;>by_cases h2:n<len<;>simp [h1,h2,fin,Qk,Va]
 | indexArr len esz x i=>
  simp only [Ux,step,Qc0,Z1,V8]
  cases Q4 tm x<;>try rfl
  all_goals
   simp only []
   cases Q4 tm i<;>try rfl
   rename_i v;cases v<;>try rfl
   rename_i n
   by_cases h1:0≤n<;>by_cases h2:n<len<;>simp [h1,h2,fin,Qk,Va]
 | indexStr x i=>
  simp only [Ux,step,Qbw,Z1,Qtg]
  cases Q4 tm x<;>try rfl
  rename_i v;cases v<;>try rfl
  simp only []
  cases Q4 tm i<;>try rfl
  rename_i v;cases v<;>try rfl
  simp only [Jo];rename_i s _ n;cases idx s n<;>rfl
 | extract x i=>
  simp only [Ux,step,Q5f,Z1]
  cases Q4 tm x<;>try rfl
  ·rename_i v;cases v<;>try rfl
   rename_i vs;simp only [Jo];cases vs[i]? <;> rfl
  rename_i vs;simp only [Jo];cases vs[i]? <;> rfl
 | lenStr x=>
  simp only [Ux,step,Qgh,Z1]
  cases Q4 tm x<;>try rfl
  rename_i v;cases v<;>rfl
 | lenSl x=>
  simp only [Ux,step,Qkq,Z1]
  cases Q4 tm x<;>try rfl
  rename_i v;cases v<;>rfl
 | lenMap x=>
  simp only [Ux,step,Qgn,Z1,Gq]
  cases Q4 tm x<;>try rfl
  ·rename_i v;cases v<;>rfl
  rename_i r;simp only []
  cases hp[r]? with
  | none=>rfl
  | some o=>cases o<;>rfl
 | append esz bytes s x=>simp only [Ux,step];exact Q8z ..
 | appendT esz bytes s x=>
  simp only [Ux,step,Qcp,Z1,Q8z,Qiz]
  cases hs:Q4 tm s<;>try rfl
  rename_i es a off len;simp only [Gq,V8,Q7j,Q4w]
  cases hp[a]? with
  | none=>rfl
  | some o=>
   cases o<;>try rfl
   rename_i cs;simp only []
   by_cases h0:off+len * esz≤cs.length
   ·have h1:Nat.ble (off+len * esz) cs.length=true:=by simpa using h0
    rw [h1,Af h0,Af rfl];rw [Mw]
    cases hq:Qc4 (hp.set a (.cells (cs.take (off+len * esz)))) hp.length esz bytes (.slice es a off len) (Q4 tm x) with
    | none=>rfl
    | some q=>
     obtain ⟨v,e⟩:=q;show k v (e.apply (hp.set a (.cells (cs.take (off+len * esz)))) (hp.set a (.cells (cs.take (off+len * esz)))).length)=k v ((e.pre a (.cells (cs.take (off+len * esz)))).apply hp hp.length);rw [Qhi (Qi2 hq),Mw]
   have h1:Nat.ble (off+len * esz) cs.length=false:=by rw [← Ny,Ls];exact h0
   rw [h1,Ae h0];rfl
 | copyB d s=>
  have hc:∀ new,(match Q4 tm d with
    | .p .nilSlice=>k (.p (.int .i64 0)) hp
    | .slice es a off len=>Qgm E hp a fun
     | .cells cs=>chk E (Nat.beq es 1&&(Nat.ble (off+len) cs.length&&Nat.ble 1 len))
      (Qgi len new cs off fun n cs=>Qn5 hp a (.cells cs) fun hp=>k (.p (.int .i64 n)) hp)
     | _=>E.fail
    | _=>E.fail)=fin E hp k (Qih hp (Q4 tm d) new):=fun new=>by
   simp only [Gq,V8,Qgi,Q7j,Qe5,Q5b,Q4w,Qih]
   cases Q4 tm d<;>try rfl
   ·rename_i v;cases v<;>rfl
   rename_i es a off len;simp only []
   cases hp[a]? with
   | none=>rfl
   | some o=>
    cases o<;>try rfl
    rename_i cs;simp only []
    by_cases h1:es=1<;>by_cases h2:off+len≤cs.length<;>by_cases h3:1≤len<;>simp [h1,h2,h3,fin,Q4z]<;>omega
  simp only [Ux,step,Qjj,Z1,Qw1]
  cases Qq2 hp (Q4 tm s) with
  | none=>rfl
  | some new=>exact hc new
 | max x y=>
  simp only [Ux,step,Qux,Z1,Gx]
  cases Q4 tm x<;>try rfl
  rename_i v;cases v<;>try rfl
  simp only []
  cases Q4 tm y<;>try rfl
  rename_i v;cases v<;>try rfl
  simp [fin,Qk,Va]
 | min x y=>
  simp only [Ux,step,Qur,Z1,Gx]
  cases Q4 tm x<;>try rfl
  rename_i v;cases v<;>try rfl
  simp only []
  cases Q4 tm y<;>try rfl
  rename_i v;cases v<;>try rfl
  simp [fin,Qk,Va]
end
end
end Go.Av
