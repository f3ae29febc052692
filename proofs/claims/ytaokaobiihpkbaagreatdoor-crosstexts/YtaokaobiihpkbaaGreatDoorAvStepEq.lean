/- Part of the proof of CrossTexts: for every input the law returns true; no condition. -/
import Derived.Test.YtaokaobiihpkbaaGreatDoorAvStep
set_option linter.all false
namespace Go.Av
noncomputable section
universe u
section
variable {α:Type u} (E:Env α)
def fin (E:Env α) (hp:List AObj) (k:AV→List AObj → α):Option (AV×Eff) → α
 | some (v,e)=>k v (e.apply hp hp.length)
 | none=>E.fail
theorem Qgu (hp:List AObj) (k:AV→List AObj → α):fin E hp k none=E.fail:=rfl
theorem Qgv (hp:List AObj) (k:AV→List AObj → α) (v:AV) (e:Eff):fin E hp k (some (v,e))=k v (e.apply hp hp.length):=rfl
theorem Jo {β:Type} (hp:List AObj) (k:AV→List AObj → α) (o:Option β) (f : β→Option (AV×Eff)):fin E hp k (o.bind f)=(match o with
  | some b=>fin E hp k (f b)
  | none=>E.fail):=by cases o<;>rfl
theorem Qqh {β:Type} (hp:List AObj) (k:AV→List AObj → α) (o:Option β) (f : β→AV×Eff):fin E hp k (o.map f)=(match o with
  | some b=>fin E hp k (some (f b))
  | none=>E.fail):=by cases o<;>rfl
theorem Q28 (hp:List AObj) (o:AObj):({ new:=some o }:Eff).apply hp hp.length=hp ++ [o]:=by simp [Eff.apply,plc]
theorem Q6x (hp:List AObj) (n:Nat) (a:Nat) (o:AObj):({ set:=some (a,o) }:Eff).apply hp n=hp.set a o:=by simp [Eff.apply]
theorem Qnf (hp:List AObj) (a:Nat) (o o':AObj):({ set:=some (a,o),new:=some o' }:Eff).apply hp hp.length=hp.set a o ++ [o']:=by simp [Eff.apply,plc]
theorem V6 (hp:List AObj) (n:Nat):({}:Eff).apply hp n=hp:=rfl

theorem Qw7 (hp:List AObj) (esz bytes:Nat) (s:AV) (new:List AV) (n:Nat) (k:AV→List AObj → α) :
  Quw E hp esz bytes s new n k=fin E hp k (Qet hp hp.length esz bytes s new n):=by
 unfold Quw Qet
 by_cases hn:n=0
 ·subst hn;simp only [ifB,Ak]
  cases s with
  | p v=>cases v<;>rfl
  | _=>rfl
 ·have:Nat.beq n 0=false:=by cases n<;>first | rfl | simp_all
  simp only [this,ifB,hn,Al]
  cases s with
  | p v=>
   cases v<;>(try rfl) <;>
   (by_cases h3:(n+4096) * bytes≤17592186044416<;>simp [Wv,Q5l,h3,fin,Q28])
  | slice es a off len=>
   simp only [Q0c]
   cases h:hp[a]? with
   | none=>rfl
   | some o=>
    cases o<;>simp only [Wv,Q21,Q07,Q6f,Q5l,fin]<;>(try rfl)
    by_cases h1:es=esz<;>rename_i cs<;>by_cases h2:off+len * esz=cs.length<;>by_cases h3:(len+n+4096) * bytes≤17592186044416<;>simp [h1,h2,h3,Qnf,List.length_set]
  | _=>rfl

theorem Qvy (hp:List AObj) (K:List AV → α) (v:AV):Z0z E hp K v=(match Qrn hp v with
  | some new=>K new
  | none=>E.fail):=by
 unfold Z0z Qrn
 cases v<;>try rfl
 ·rename_i p;cases p<;>try rfl
  ·simp [V1]
  rename_i es rows;simp only [Wv,V1]
  by_cases h0:es=1
  ·simp [h0]
  have:Nat.beq es 1=false:=by rw [← Ns,Bh];exact h0
  simp [h0,this]
 rename_i es b off n;simp only [Q0c,Q21,Wv,Q2s]
 cases hp[b]? with
 | none=>rfl
 | some o=>
  cases o<;>try rfl
  rename_i cs
  by_cases h0:es=1
  ·simp only [h0,Ak,Db];cases Q2g n (cs.drop off)<;>rfl
  have:Nat.beq es 1=false:=by rw [← Ns,Bh];exact h0
  simp [h0,this]
theorem Qas (tm:List AV) (hp:List AObj) (k:AV→List AObj → α) (esz bytes:Nat) (s x:Opd):Q6w E tm hp k esz bytes s x=fin E hp k (Qe0 hp hp.length esz bytes (Q4 tm s) (Q4 tm x)):=by
 simp only [Qe0,Q6w,Qz,Q0c,Wv,Qw7,V1,Q21,Q2s]
 cases Q4 tm x<;>try rfl
 ·rename_i v;cases v<;>try rfl
  ·rename_i b
   by_cases h0:esz=1
   ·simp [h0]
   have:Nat.beq esz 1=false:=by rw [← Ns,Bh];exact h0
   simp [h0,this,Qgu]
  rename_i es rows
  by_cases h0:es=esz
  ·simp [h0]
  have:Nat.beq es esz=false:=by rw [← Ns,Bh];exact h0
  simp [h0,this,Qgu]
 rename_i es b off n;simp only []
 cases hp[b]? with
 | none=>rfl
 | some o=>
  cases o<;>try rfl
  rename_i cs
  by_cases h0:es=esz
  ·simp only [h0,Ak,Jo,Db];cases Q2g (n * esz) (cs.drop off)<;>rfl
  have:Nat.beq es esz=false:=by rw [← Ns,Bh];exact h0
  simp [h0,this,Qgu]
theorem Qff (tm:List AV) (hp:List AObj) (k:AV→List AObj → α) (esz:Nat) (x:Opd) (lo hi:Option Opd):Qbu E tm hp k esz x lo hi=fin E hp k (Qmr esz (Q4 tm x) (lo.map (Q4 tm)) (hi.map (Q4 tm))):=by
 simp only [Qmr,Qbu,Qz,Qgj,Qbp,Wv]
 cases Q4 tm x<;>try rfl
 ·rename_i v;cases v<;>try rfl
  rename_i es s;simp only []
  cases Q7c 0 (lo.map (Q4 tm))<;>try rfl
  rename_i l;simp only []
  cases Q7c s.length (hi.map (Q4 tm))<;>try rfl
  rename_i h
  by_cases h0:es=esz<;>by_cases h1:l≤h<;>by_cases h2:h≤s.length<;>simp [h0,h1,h2,fin,Qk,V6]
 ·rename_i es a off s;simp only []
  cases Q7c 0 (lo.map (Q4 tm))<;>try rfl
  rename_i l;simp only []
  cases Q7c s (hi.map (Q4 tm))<;>try rfl
  rename_i h
  by_cases h0:es=esz<;>by_cases h1:l≤h<;>by_cases h2:h≤s<;>simp [h0,h1,h2,fin,Qk,V6]

theorem Qcn (tm:List AV) (hp:List AObj) (k:AV→List AObj → α) (c:COp) (hc:c.isCall=false) :
  Um E tm hp k c=fin E hp k (Z5 E.glob tm hp hp.length c):=by
 cases c with
 | call f args=>cases hc
 | callv f args=>cases hc
 | move x=>simp only [Um,Z5,Qh3,Qz];rfl
 | pick c a b=>
  simp only [Um,Z5,Qq0,Qz,Q0i]
  cases Q4 tm c<;>try rfl
  rename_i v;cases v<;>try rfl
  rename_i b;cases b<;>rfl
 | alloc z=>simp only [Um,Z5,Qln,V1,Q5l,Qgv,Q28]
 | box x=>
  simp only [Um,Z5,Qur,Qz,Qcu,Q5l,Qqh,Qgv,Q28]
  cases (Q4 tm x).cells? <;> rfl
 | build z ps=>
  simp only [Um,Z5,Qmy,V1,Qgy,Jo];cases Q59 tm (z.map AV.p) ps<;>rfl
 | buildSlice z len esz ps=>
  simp only [Um,Z5,Q9q,V1,Qgy,Q5l,Qqh,Qgv,Q28];cases Q59 tm ((List.replicate len z).flatten.map AV.p) ps<;>rfl
 | load n agg x=>
  simp only [Um,Z5,Qr8,Qz,Q88,Q2s,Q0b,Jo]
  cases Gn E.glob hp (Q4 tm x) with
  | none=>rfl
  | some cs=>
   simp only []
   cases Q2g n cs with
   | none=>rfl
   | some cs=>simp only [];cases sOf agg cs<;>rfl
 | store n x y=>
  simp only [Um,Z5,Qmc,Qz,Q0c,Qcu,Wv,Q7g,Q6f]
  cases Q4 tm x<;>try rfl
  rename_i a off;simp only []
  cases hp[a]? with
  | none=>rfl
  | some o=>
   cases o<;>try rfl
   rename_i cs;simp only []
   cases (Q4 tm y).cells? with
   | none=>rfl
   | some v=>
    simp only []
    by_cases h1:v.length=n<;>by_cases h2:off+n≤cs.length<;>simp [h1,h2,fin,Q6x]
 | nilCheck x=>
  simp only [Um,Z5,Qdv,Qz]
  cases Q4 tm x<;>try rfl
  ·rename_i v;cases v<;>try rfl
   rename_i fn a b;cases fn<;>rfl
  rename_i fn a b;cases fn<;>rfl
 | ari op x y=>
  simp only [Um,Z5,Quc,Qz]
  cases Q4 tm x<;>try rfl
  rename_i v
  cases v<;>try rfl
  ·simp only []
   cases Q4 tm y<;>try rfl
   rename_i v
   cases v<;>try rfl
   simp only [Qvr,Wv];rename_i i x j y;cases Qf7 op i j
   ·rfl
   simp only [Ak,Jo];cases Qw3 op i x y<;>rfl
  simp only []
  cases Q4 tm y<;>try rfl
  rename_i v
  cases v<;>try rfl
  cases op<;>try rfl
  simp only [Wv];rename_i s t
  by_cases h:s.length+t.length≤4611686018427387904<;>simp [h,fin,Qk,V6]
 | cmp op x y=>
  simp only [Um,Z5,Quq,Qz,Jo,E.cmp.2,E.scmp.2]
  cases Q4 tm x<;>try rfl
  rename_i v
  cases v<;>try rfl
  ·simp only []
   cases Q4 tm y<;>try rfl
   rename_i v
   cases v<;>try rfl
   rename_i i x j y;simp only [Wv,Qzn];cases i == j<;>rfl
  simp only []
  cases Q4 tm y<;>try rfl
  rename_i v;cases v<;>rfl
 | eqB neg x y=>
  simp only [Um,Z5,Qub,Qz]
  cases Q4 tm x<;>try rfl
  rename_i v
  cases v<;>try rfl
  simp only []
  cases Q4 tm y<;>try rfl
  rename_i v
  cases v<;>try rfl
  cases neg<;>rfl
 | eqP neg x y=>
  simp only [Um,Z5,Quz,Qz]
  cases Q4 tm x<;>try rfl
  ·rename_i v
   cases v<;>try rfl
   simp only []
   cases Q4 tm y<;>try rfl
   rename_i v;cases v<;>rfl
  simp only []
  cases Q4 tm y<;>try rfl
  rename_i v;cases v<;>rfl
 | eqAgg neg kinds x y=>
  simp only [Um,Z5,Qmb,Qz,Qrk]
  cases (Q4 tm x).aggs? <;> try rfl
  simp only []
  cases (Q4 tm y).aggs? <;> try rfl
  simp only [Qel,Jo,Q0i];rename_i cs ds;cases X1 kinds cs ds<;>rfl
 | not x=>
  simp only [Um,Z5,Quu,Qz];cases Q4 tm x<;>try rfl
  rename_i v;cases v<;>rfl
 | neg x=>
  simp only [Um,Z5,Qv6,Qz];cases Q4 tm x<;>try rfl
  rename_i v;cases v<;>rfl
 | conv i x=>
  simp only [Um,Z5,Qqj,Qz];cases Q4 tm x<;>try rfl
  rename_i v;cases v<;>rfl
 | bytesOf x=>
  simp only [Um,Z5,Qf6,Qz];cases Q4 tm x<;>try rfl
  rename_i v;cases v<;>try rfl
  simp only [V1,Q5l,fin,Q28]
 | strOf x=>
  simp only [Um,Z5,Qli,Qz,Q0c]
  cases Q4 tm x<;>try rfl
  ·rename_i v;cases v<;>rfl
  rename_i es a off len;simp only []
  cases hp[a]? with
  | none=>rfl
  | some o=>
   cases o<;>try rfl
   simp only [Q21,Q2s,Qcb,Jo];rename_i cs
   cases Q2g len (cs.drop off) with
   | none=>rfl
   | some cs=>simp only [];cases Qmd cs<;>rfl
 | makeFunc fn a b=>simp only [Um,Z5,Qds,Gj];rfl
 | makeMap=>simp only [Um,Z5,Qep,Q5l,fin,Q28]
 | bad=>rfl
 | sliceZ x=>
  simp only [Um,Z5,Qhx,Qz]
  cases Q4 tm x<;>try rfl
  rename_i v;cases v<;>rfl
 | eqN neg x=>
  simp only [Um,Z5,Qul,Qz]
  cases Q4 tm x<;>try rfl
  ·rename_i v
   cases v<;>try rfl
   ·cases neg<;>rfl
   rename_i es rows;simp only [Wv];cases rows.isEmpty<;>rfl
  rename_i es b off len;simp only [Wv]
  by_cases h:0<len<;>simp [h,fin,Qk,V6,Nat.blt_eq]
 | extIx x y=>
  simp only [Um,Z5,Qn4,Qz]
  cases Q4 tm x<;>try rfl
  rename_i v
  cases v<;>try (cases Q4 tm y<;>rfl)
  cases Q4 tm y<;>try rfl
  rename_i u
  cases u<;>try rfl
  rename_i s i c;simp only [Wv];cases i == IntKind.u8<;>rfl
 | rangeS x=>
  simp only [Um,Z5,Qin,Qz]
  cases Q4 tm x<;>try rfl
  rename_i v
  cases v<;>try rfl
  simp only [Q5l,fin,Q28]
 | nextS x=>
  simp only [Um,Z5,Qlz,Qz,Q0c]
  cases Q4 tm x<;>try rfl
  rename_i b o;simp only []
  cases hp[b]? with
  | none=>rfl
  | some ob=>
   cases ob<;>try rfl
   rename_i s pos;simp only [Wv,Q6f,Q0i]
   by_cases h0:o=0
   ·subst h0
    by_cases hl:pos<s.length
    ·simp [hl,fin,Q6x,Nat.blt_eq]
    simp [hl,fin,Qk,V6,Nat.blt_eq]
   simp [h0,fin]
 | runeStr x=>
  simp only [Um,Z5,Qen,Qz]
  cases Q4 tm x<;>try rfl
  rename_i v;cases v<;>rfl
 | extCt x y=>
  simp only [Um,Z5,Qlh,Qz]
  cases Q4 tm x<;>try rfl
  rename_i v
  cases v<;>try (cases Q4 tm y<;>rfl)
  cases Q4 tm y<;>try rfl
  rename_i u
  cases u<;>try rfl
  rename_i s i c;simp only [Wv];cases i == IntKind.u8<;>rfl
 | mkIface t x=>simp only [Um,Z5,Qf0,Qz];rfl
 | asserT t z agg ok x=>
  simp only [Um,Z5,Qho,Qz,Q0i,Wv,V1,Q0b]
  have key:∀ (u:Nat) (v:AV),(if Nat.beq u t=true then if ok=true then k (.tuple [v,.p (.bool true)]) hp else k v hp else if ok=true then (match sOf agg (z.map .p) with
     | some z=>k (.tuple [z,.p (.bool false)]) hp
     | none=>E.fail) else E.fail)=fin E hp k (if u=t then Qk (if ok then .tuple [v,.p (.bool true)] else v) else if ok=true then (sOf agg (z.map .p)).bind fun z=>Qk (.tuple [z,.p (.bool false)]) else none):=by
   intro u v
   by_cases hu:u=t
   ·subst hu;cases ok<;>simp [fin,Qk,V6]
   have:Nat.beq u t=false:=by rw [← Ns,Bh];exact hu
   simp only [this,hu,Al,Ll];cases ok
   ·rfl
   simp only [Ak,Jo];cases sOf agg (z.map .p)<;>rfl
  cases Q4 tm x<;>try rfl
  ·rename_i v
   cases v<;>try rfl
   exact key _ _
  exact key _ _
 | eqI neg x=>
  simp only [Um,Z5,Quh,Qz]
  cases Q4 tm x<;>try rfl
  rename_i v
  cases v<;>first | rfl | (cases neg<;>rfl)
 | eqF neg x=>
  simp only [Um,Z5,Qu8,Qz]
  cases Q4 tm x<;>try rfl
  rename_i v
  cases v<;>first | rfl | (cases neg<;>rfl)
 | del kk m ke=>
  simp only [Um,Z5,Qu7,Qz,Q0c]
  cases Q4 tm m<;>try rfl
  rename_i r;cases Q4 tm ke
  case p kv=>
   simp only []
   cases h:hp[r]? with
   | none=>rfl
   | some o=>
    cases o<;>try rfl
    rename_i es;simp only [Q2y,Wv]
    cases Q1m kk kv with
    | false=>rfl
    | true=>
     simp only [Ak,Bi,Al]
     cases Jp kv 0 es with
     | none=>rfl
     | some r=>cases r<;>simp [Q6f,fin,Q6x,Qk,V6]
  all_goals
   simp only []
   cases h:hp[r]? with
   | none=>rfl
   | some o=>cases o<;>rfl
 | insert kk m ke v=>
  simp only [Um,Z5,Qhl,Qz,Q0c]
  cases Q4 tm m<;>try rfl
  rename_i r;cases Q4 tm ke
  case p kv=>
   simp only []
   cases h:hp[r]? with
   | none=>rfl
   | some o=>
    cases o<;>try rfl
    rename_i es;simp only [Q2y,Wv]
    cases Q1m kk kv with
    | false=>rfl
    | true=>
     simp only [Ak,Bi,Al]
     cases Jp kv 0 es with
     | none=>rfl
     | some r=>cases r<;>simp [Q6f,Q07,fin,Q6x]
  all_goals
   simp only []
   cases h:hp[r]? with
   | none=>rfl
   | some o=>cases o<;>rfl
 | lookup kk z agg ok m ke=>
  simp only [Um,Z5,Qhj,Qz,Q0c];cases Q4 tm m
  case map r=>
   cases Q4 tm ke
   case p kv=>
    simp only []
    cases h:hp[r]? with
    | none=>rfl
    | some o=>
     cases o<;>try rfl
     rename_i es;simp only [Q2y,Wv]
     cases Q1m kk kv with
     | false=>rfl
     | true=>
      simp only [Ak,Bi,Al]
      cases Jp kv 0 es with
      | none=>rfl
      | some r=>
       cases r with
       | none=>
        simp only [V1,Q0b,Jo];cases sOf agg (z.map AV.p)<;>cases ok<;>rfl
       | some r=>cases ok<;>rfl
   all_goals
    simp only []
    cases h:hp[r]? with
    | none=>rfl
    | some o=>cases o<;>rfl
  case p mv=>
   cases mv<;>try (cases Q4 tm ke<;>rfl)
   rename_i ps
   cases Q4 tm ke<;>try rfl
   rename_i kv;simp only [Wv,Qga]
   cases Q1m kk kv with
   | false=>rfl
   | true=>
    simp only [Ak,Bi,Al]
    cases Qhf kv ps with
    | none=>rfl
    | some r=>
     cases r with
     | none=>
      simp only [V1,Q0b,Jo];cases sOf agg (z.map AV.p)<;>cases ok<;>rfl
     | some r=>cases ok<;>rfl
  all_goals (cases Q4 tm ke<;>rfl)
 | makeSlice z bytes l c=>
  simp only [Um,Z5,Qak,Qz]
  cases Q4 tm l<;>try rfl
  rename_i v;cases v<;>try rfl
  simp only []
  cases Q4 tm c<;>try rfl
  rename_i v;cases v<;>try rfl
  simp only [Wv,V1,Q5l];rename_i l _ c
  by_cases h1:0≤l<;>by_cases h2:l≤c<;>by_cases h3:c * bytes≤1099511627776<;>simp [h1,h2,h3,fin,Q28]
 | sliceStr x lo hi=>
  simp only [Um,Z5,Qdk,Qz,Qgj,Qbp,Wv]
  cases Q4 tm x<;>try rfl
  rename_i v;cases v<;>try rfl
  rename_i s;simp only []
  cases Q7c 0 (lo.map (Q4 tm))<;>try rfl
  rename_i l;simp only []
  cases Q7c s.length (hi.map (Q4 tm))<;>try rfl
  rename_i h
  by_cases h1:l≤h<;>by_cases h2:h≤s.length<;>simp [h1,h2,fin,Qk,V6]
 | slice esz x lo hi=>exact Qff E tm hp k esz x lo hi
 | slice3 esz x lo hi mx=>
  simp only [Um,Z5,Qjd,Qgj,Qbp,Wv,Qff]
  cases Q7c 0 (hi.map (Q4 tm))<;>try rfl
  rename_i h;simp only []
  cases Q7c 0 (mx.map (Q4 tm))<;>try rfl
  rename_i m
  by_cases h0:h=m<;>simp [h0,fin]
 | sliceArr n esz x lo hi=>
  simp only [Um,Z5,Qd1,Qz,Qgj,Qbp,Wv,Q0c]
  cases Q4 tm x<;>try rfl
  rename_i a off;simp only []
  cases hp[a]? with
  | none=>rfl
  | some o=>
   cases o<;>try rfl
   rename_i cs;simp only []
   cases Q7c 0 (lo.map (Q4 tm))<;>try rfl
   rename_i l;simp only []
   cases Q7c n (hi.map (Q4 tm))<;>try rfl
   rename_i h
   by_cases h0:off+n * esz≤cs.length<;>by_cases h1:l≤h<;>by_cases h2:h≤n<;>simp [h0,h1,h2,fin,Qk,V6]
 | fieldAddr x off=>simp only [Um,Z5,Qaq,Qz,Q21];cases Q4 tm x<;>rfl
 | field x off n agg=>
  simp only [Um,Z5,Qn2,Qz,Qrk]
  cases (Q4 tm x).aggs? <;> try rfl
  simp only [Q21,Q2s,Q0b,Jo];rename_i cs
  cases Q2g n (cs.drop off) with
  | none=>rfl
  | some cs=>simp only [];cases sOf agg cs<;>rfl
 | indexAddr esz x i=>
  simp only [Um,Z5,Qam,Qz,Wv,Qs1]
  cases Q4 tm x<;>try rfl
  ·rename_i v;cases v<;>try rfl
   simp only []
   cases Q4 tm i<;>try rfl
   rename_i v;cases v<;>try rfl
   rename_i es rows _ n
   by_cases h0:es=esz<;>cases hi:idx rows n<;>simp [h0,hi,fin,Qk,V6]
  simp only []
  cases Q4 tm i<;>try rfl
  rename_i v;cases v<;>try rfl
  rename_i es a off len _ n
  by_cases h1:0≤n<;>by_cases h2:n<len<;>simp [h1,h2,fin,Qk,V6]
 | indexArr len esz x i=>
  simp only [Um,Z5,Qc8,Qz,Wv]
  cases Q4 tm x<;>try rfl
  all_goals
   simp only []
   cases Q4 tm i<;>try rfl
   rename_i v;cases v<;>try rfl
   rename_i n
   by_cases h1:0≤n<;>by_cases h2:n<len<;>simp [h1,h2,fin,Qk,V6]
 | indexStr x i=>
  simp only [Um,Z5,Qd3,Qz,Qs1]
  cases Q4 tm x<;>try rfl
  rename_i v;cases v<;>try rfl
  simp only []
  cases Q4 tm i<;>try rfl
  rename_i v;cases v<;>try rfl
  simp only [Jo];rename_i s _ n;cases idx s n<;>rfl
 | extract x i=>
  simp only [Um,Z5,Q7a,Qz]
  cases Q4 tm x<;>try rfl
  ·rename_i v;cases v<;>try rfl
   rename_i vs;simp only [Jo];cases vs[i]? <;> rfl
  rename_i vs;simp only [Jo];cases vs[i]? <;> rfl
 | lenStr x=>
  simp only [Um,Z5,Qjl,Qz]
  cases Q4 tm x<;>try rfl
  rename_i v;cases v<;>rfl
 | lenSl x=>
  simp only [Um,Z5,Qmt,Qz]
  cases Q4 tm x<;>try rfl
  rename_i v;cases v<;>rfl
 | lenMap x=>
  simp only [Um,Z5,Qji,Qz,Q0c]
  cases Q4 tm x<;>try rfl
  ·rename_i v;cases v<;>rfl
  rename_i r;simp only []
  cases hp[r]? with
  | none=>rfl
  | some o=>cases o<;>rfl
 | append esz bytes s x=>simp only [Um,Z5];exact Qas ..
 | appendT esz bytes s x=>
  simp only [Um,Z5,Qex,Qz,Qas,Qkb]
  cases hs:Q4 tm s<;>try rfl
  rename_i es a off len;simp only [Q0c,Wv,Q8u,Q6f]
  cases hp[a]? with
  | none=>rfl
  | some o=>
   cases o<;>try rfl
   rename_i cs;simp only []
   by_cases h0:off+len * esz≤cs.length
   ·have h1:Nat.ble (off+len * esz) cs.length=true:=by simpa using h0
    rw [h1,Af h0,Af rfl];rw [Mw]
    cases hq:Qe0 (hp.set a (.cells (cs.take (off+len * esz)))) hp.length esz bytes (.slice es a off len) (Q4 tm x) with
    | none=>rfl
    | some q=>
     obtain ⟨v,e⟩:=q;show k v (e.apply (hp.set a (.cells (cs.take (off+len * esz)))) (hp.set a (.cells (cs.take (off+len * esz)))).length)=k v ((e.pre a (.cells (cs.take (off+len * esz)))).apply hp hp.length);rw [Qix (Qk3 hq),Mw]
   have h1:Nat.ble (off+len * esz) cs.length=false:=by rw [← Ns,Lu];exact h0
   rw [h1,Ae h0];rfl
 | copyB d s=>
  have hc:∀ new,(match Q4 tm d with
    | .p .nilSlice=>k (.p (.int .i64 0)) hp
    | .slice es a off len=>Qio E hp a fun
     | .cells cs=>chk E (Nat.beq es 1&&(Nat.ble (off+len) cs.length&&Nat.ble 1 len))
      (Qiq len new cs off fun n cs=>Qou hp a (.cells cs) fun hp=>k (.p (.int .i64 n)) hp)
     | _=>E.fail
    | _=>E.fail)=fin E hp k (Qke hp (Q4 tm d) new):=fun new=>by
   simp only [Q0c,Wv,Qiq,Q8u,Qgq,Q7g,Q6f,Qke]
   cases Q4 tm d<;>try rfl
   ·rename_i v;cases v<;>rfl
   rename_i es a off len;simp only []
   cases hp[a]? with
   | none=>rfl
   | some o=>
    cases o<;>try rfl
    rename_i cs;simp only []
    by_cases h1:es=1<;>by_cases h2:off+len≤cs.length<;>by_cases h3:1≤len<;>simp [h1,h2,h3,fin,Q6x]<;>omega
  simp only [Um,Z5,Qlx,Qz,Qvy]
  cases Qrn hp (Q4 tm s) with
  | none=>rfl
  | some new=>exact hc new
 | max x y=>
  simp only [Um,Z5,Qum,Qz,Q0i]
  cases Q4 tm x<;>try rfl
  rename_i v;cases v<;>try rfl
  simp only []
  cases Q4 tm y<;>try rfl
  rename_i v;cases v<;>try rfl
  simp [fin,Qk,V6]
 | min x y=>
  simp only [Um,Z5,Quv,Qz,Q0i]
  cases Q4 tm x<;>try rfl
  rename_i v;cases v<;>try rfl
  simp only []
  cases Q4 tm y<;>try rfl
  rename_i v;cases v<;>try rfl
  simp [fin,Qk,V6]
end
end
end Go.Av
