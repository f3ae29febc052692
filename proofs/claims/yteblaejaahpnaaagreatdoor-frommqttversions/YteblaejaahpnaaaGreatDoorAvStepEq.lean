/- Part of the proof of FrommqttVersions: for every input the law returns true; no condition. -/
import Derived.Test.YteblaejaahpnaaaGreatDoorAvStep
set_option linter.all false
namespace Go.Av
noncomputable section
universe u
section
variable {α:Type u} (E:Env α)
def fin (E:Env α) (hp:List AObj) (k:AV→List AObj → α):Option (AV×Eff) → α
 | some (v,e)=>k v (e.apply hp hp.length)
 | none=>E.fail
theorem Qd3 (hp:List AObj) (k:AV→List AObj → α):fin E hp k none=E.fail:=rfl
theorem Qbx (hp:List AObj) (k:AV→List AObj → α) (v:AV) (e:Eff):fin E hp k (some (v,e))=k v (e.apply hp hp.length):=rfl
theorem Vy {β:Type} (hp:List AObj) (k:AV→List AObj → α) (o:Option β) (f : β→Option (AV×Eff)):fin E hp k (o.bind f)=(match o with
  | some b=>fin E hp k (f b)
  | none=>E.fail):=by cases o<;>rfl
theorem Qkg {β:Type} (hp:List AObj) (k:AV→List AObj → α) (o:Option β) (f : β→AV×Eff):fin E hp k (o.map f)=(match o with
  | some b=>fin E hp k (some (f b))
  | none=>E.fail):=by cases o<;>rfl
theorem Gv (hp:List AObj) (o:AObj):({ new:=some o }:Eff).apply hp hp.length=hp ++ [o]:=by simp [Eff.apply,plc]
theorem Q3v (hp:List AObj) (n:Nat) (a:Nat) (o:AObj):({ set:=some (a,o) }:Eff).apply hp n=hp.set a o:=by simp [Eff.apply]
theorem Qio (hp:List AObj) (a:Nat) (o o':AObj):({ set:=some (a,o),new:=some o' }:Eff).apply hp hp.length=hp.set a o ++ [o']:=by simp [Eff.apply,plc]
theorem Xh (hp:List AObj) (n:Nat):({}:Eff).apply hp n=hp:=rfl

theorem Qof (hp:List AObj) (esz bytes:Nat) (s:AV) (new:List AV) (n:Nat) (k:AV→List AObj → α) :
  Qn5 E hp esz bytes s new n k=fin E hp k (Qaw hp hp.length esz bytes s new n):=by
 unfold Qn5 Qaw
 by_cases hn:n=0
 ·subst hn;simp only [ifB,if_true]
  cases s with
  | p v=>cases v<;>rfl
  | _=>rfl
 ·have:Nat.beq n 0=false:=by cases n<;>first | rfl | simp_all
  simp only [this,ifB,hn,if_false]
  cases s with
  | p v=>
   cases v<;>(try rfl) <;>
   (by_cases h3:(n+4096) * bytes≤17592186044416<;>simp [Xc,Q35,h3,fin,Gv])
  | slice es a off len=>
   simp only [J4]
   cases h:hp[a]? with
   | none=>rfl
   | some o=>
    cases o<;>simp only [Xc,Gm,Jw,Q3r,Q35,fin]<;>(try rfl)
    by_cases h1:es=esz<;>rename_i cs<;>by_cases h2:off+len * esz=cs.length<;>by_cases h3:(len+n+4096) * bytes≤17592186044416<;>simp [h1,h2,h3,Qio,List.length_set]
  | _=>rfl

theorem Qpe (hp:List AObj) (K:List AV → α) (v:AV):Qsu E hp K v=(match Qk6 hp v with
  | some new=>K new
  | none=>E.fail):=by
 unfold Qsu Qk6
 cases v<;>try rfl
 ·rename_i p;cases p<;>try rfl
  ·simp [Xr]
  rename_i es rows;simp only [Xc,Xr]
  by_cases h0:es=1
  ·simp [h0]
  have:Nat.beq es 1=false:=by rw [← Ng,Bh];exact h0
  simp [h0,this]
 rename_i es b off n;simp only [J4,Gm,Xc,Q0c]
 cases hp[b]? with
 | none=>rfl
 | some o=>
  cases o<;>try rfl
  rename_i cs
  by_cases h0:es=1
  ·simp only [h0,if_true,Cn];cases Q07 n (cs.drop off)<;>rfl
  have:Nat.beq es 1=false:=by rw [← Ng,Bh];exact h0
  simp [h0,this]
theorem Q82 (tm:List AV) (hp:List AObj) (k:AV→List AObj → α) (esz bytes:Nat) (s x:Opd):Q46 E tm hp k esz bytes s x=fin E hp k (Qaf hp hp.length esz bytes (Q2 tm s) (Q2 tm x)):=by
 simp only [Qaf,Q46,Qw,J4,Xc,Qof,Xr,Gm,Q0c]
 cases Q2 tm x<;>try rfl
 ·rename_i v;cases v<;>try rfl
  ·rename_i b
   by_cases h0:esz=1
   ·simp [h0]
   have:Nat.beq esz 1=false:=by rw [← Ng,Bh];exact h0
   simp [h0,this,Qd3]
  rename_i es rows
  by_cases h0:es=esz
  ·simp [h0]
  have:Nat.beq es esz=false:=by rw [← Ng,Bh];exact h0
  simp [h0,this,Qd3]
 rename_i es b off n;simp only []
 cases hp[b]? with
 | none=>rfl
 | some o=>
  cases o<;>try rfl
  rename_i cs
  by_cases h0:es=esz
  ·simp only [h0,if_true,Vy,Cn];cases Q07 (n * esz) (cs.drop off)<;>rfl
  have:Nat.beq es esz=false:=by rw [← Ng,Bh];exact h0
  simp [h0,this,Qd3]
theorem Qbd (tm:List AV) (hp:List AObj) (k:AV→List AObj → α) (esz:Nat) (x:Opd) (lo hi:Option Opd):Q8k E tm hp k esz x lo hi=fin E hp k (Qh1 esz (Q2 tm x) (lo.map (Q2 tm)) (hi.map (Q2 tm))):=by
 simp only [Qh1,Q8k,Qw,Qcx,Q8f,Xc]
 cases Q2 tm x<;>try rfl
 ·rename_i v;cases v<;>try rfl
  rename_i es s;simp only []
  cases Q4a 0 (lo.map (Q2 tm))<;>try rfl
  rename_i l;simp only []
  cases Q4a s.length (hi.map (Q2 tm))<;>try rfl
  rename_i h
  by_cases h0:es=esz<;>by_cases h1:l≤h<;>by_cases h2:h≤s.length<;>simp [h0,h1,h2,fin,Qh,Xh]
 ·rename_i es a off s;simp only []
  cases Q4a 0 (lo.map (Q2 tm))<;>try rfl
  rename_i l;simp only []
  cases Q4a s (hi.map (Q2 tm))<;>try rfl
  rename_i h
  by_cases h0:es=esz<;>by_cases h1:l≤h<;>by_cases h2:h≤s<;>simp [h0,h1,h2,fin,Qh,Xh]

theorem Q94 (tm:List AV) (hp:List AObj) (k:AV→List AObj → α) (c:COp) (hc:c.isCall=false) :
  Vr E tm hp k c=fin E hp k (Qr E.glob tm hp hp.length c):=by
 cases c with
 | call f args=>cases hc
 | callv f args=>cases hc
 | move x=>simp only [Vr,Qr,Qks,Qw];rfl
 | pick c a b=>
  simp only [Vr,Qr,Qjm,Qw,G9]
  cases Q2 tm c<;>try rfl
  rename_i v;cases v<;>try rfl
  rename_i b;cases b<;>rfl
 | alloc z=>simp only [Vr,Qr,Qh9,Xr,Q35,Qbx,Gv]
 | box x=>
  simp only [Vr,Qr,Qnm,Qw,Qae,Q35,Qkg,Qbx,Gv]
  cases (Q2 tm x).cells? <;> rfl
 | build z ps=>
  simp only [Vr,Qr,Qhe,Xr,Qc6,Vy];cases Q32 tm (z.map AV.p) ps<;>rfl
 | buildSlice z len esz ps=>
  simp only [Vr,Qr,Q5p,Xr,Qc6,Q35,Qkg,Qbx,Gv];cases Q32 tm ((List.replicate len z).flatten.map AV.p) ps<;>rfl
 | load n agg x=>
  simp only [Vr,Qr,Qkb,Qw,Q5k,Q0c,J2,Vy]
  cases Um E.glob hp (Q2 tm x) with
  | none=>rfl
  | some cs=>
   simp only []
   cases Q07 n cs with
   | none=>rfl
   | some cs=>simp only [];cases sOf agg cs<;>rfl
 | store n x y=>
  simp only [Vr,Qr,Qh5,Qw,J4,Qae,Xc,Q4b,Q3r]
  cases Q2 tm x<;>try rfl
  rename_i a off;simp only []
  cases hp[a]? with
  | none=>rfl
  | some o=>
   cases o<;>try rfl
   rename_i cs;simp only []
   cases (Q2 tm y).cells? with
   | none=>rfl
   | some v=>
    simp only []
    by_cases h1:v.length=n<;>by_cases h2:off+n≤cs.length<;>simp [h1,h2,fin,Q3v]
 | nilCheck x=>
  simp only [Vr,Qr,Q9e,Qw]
  cases Q2 tm x<;>try rfl
  ·rename_i v;cases v<;>try rfl
   rename_i fn a b;cases fn<;>rfl
  rename_i fn a b;cases fn<;>rfl
 | ari op x y=>
  simp only [Vr,Qr,Qnj,Qw]
  cases Q2 tm x<;>try rfl
  rename_i v
  cases v<;>try rfl
  ·simp only []
   cases Q2 tm y<;>try rfl
   rename_i v
   cases v<;>try rfl
   simp only [Qo0,Xc];rename_i i x j y;cases Qbj op i j
   ·rfl
   simp only [if_true,Vy];cases Qop op i x y<;>rfl
  simp only []
  cases Q2 tm y<;>try rfl
  rename_i v
  cases v<;>try rfl
  cases op<;>try rfl
  simp only [Xc];rename_i s t
  by_cases h:s.length+t.length≤4611686018427387904<;>simp [h,fin,Qh,Xh]
 | cmp op x y=>
  simp only [Vr,Qr,Qnf,Qw,Vy,E.cmp.2,E.scmp.2]
  cases Q2 tm x<;>try rfl
  rename_i v
  cases v<;>try rfl
  ·simp only []
   cases Q2 tm y<;>try rfl
   rename_i v
   cases v<;>try rfl
   rename_i i x j y;simp only [Xc,Qqk];cases i == j<;>rfl
  simp only []
  cases Q2 tm y<;>try rfl
  rename_i v;cases v<;>rfl
 | eqB neg x y=>
  simp only [Vr,Qr,Qn2,Qw]
  cases Q2 tm x<;>try rfl
  rename_i v
  cases v<;>try rfl
  simp only []
  cases Q2 tm y<;>try rfl
  rename_i v
  cases v<;>try rfl
  cases neg<;>rfl
 | eqP neg x y=>
  simp only [Vr,Qr,Qni,Qw]
  cases Q2 tm x<;>try rfl
  ·rename_i v
   cases v<;>try rfl
   simp only []
   cases Q2 tm y<;>try rfl
   rename_i v;cases v<;>rfl
  simp only []
  cases Q2 tm y<;>try rfl
  rename_i v;cases v<;>rfl
 | eqAgg neg kinds x y=>
  simp only [Vr,Qr,Qgl,Qw,Ql1]
  cases (Q2 tm x).aggs? <;> try rfl
  simp only []
  cases (Q2 tm y).aggs? <;> try rfl
  simp only [Qbr,Vy,G9];rename_i cs ds;cases Y1 kinds cs ds<;>rfl
 | not x=>
  simp only [Vr,Qr,Qnd,Qw];cases Q2 tm x<;>try rfl
  rename_i v;cases v<;>rfl
 | neg x=>
  simp only [Vr,Qr,Qn4,Qw];cases Q2 tm x<;>try rfl
  rename_i v;cases v<;>rfl
 | conv i x=>
  simp only [Vr,Qr,Qj8,Qw];cases Q2 tm x<;>try rfl
  rename_i v;cases v<;>rfl
 | bytesOf x=>
  simp only [Vr,Qr,Qbf,Qw];cases Q2 tm x<;>try rfl
  rename_i v;cases v<;>try rfl
  simp only [Xr,Q35,fin,Gv]
 | strOf x=>
  simp only [Vr,Qr,Qgu,Qw,J4]
  cases Q2 tm x<;>try rfl
  ·rename_i v;cases v<;>rfl
  rename_i es a off len;simp only []
  cases hp[a]? with
  | none=>rfl
  | some o=>
   cases o<;>try rfl
   simp only [Gm,Q0c,Q9x,Vy];rename_i cs
   cases Q07 len (cs.drop off) with
   | none=>rfl
   | some cs=>simp only [];cases Qgy cs<;>rfl
 | makeFunc fn a b=>simp only [Vr,Qr,Q9y,Uj];rfl
 | makeMap=>simp only [Vr,Qr,Qbk,Q35,fin,Gv]
 | bad=>rfl
 | sliceZ x=>
  simp only [Vr,Qr,Qdu,Qw]
  cases Q2 tm x<;>try rfl
  rename_i v;cases v<;>rfl
 | eqN neg x=>
  simp only [Vr,Qr,Qnq,Qw]
  cases Q2 tm x<;>try rfl
  ·rename_i v
   cases v<;>try rfl
   ·cases neg<;>rfl
   rename_i es rows;simp only [Xc];cases rows.isEmpty<;>rfl
  rename_i es b off len;simp only [Xc]
  by_cases h:0<len<;>simp [h,fin,Qh,Xh,Nat.blt_eq]
 | extIx x y=>
  simp only [Vr,Qr,Qha,Qw]
  cases Q2 tm x<;>try rfl
  rename_i v
  cases v<;>try (cases Q2 tm y<;>rfl)
  cases Q2 tm y<;>try rfl
  rename_i u
  cases u<;>try rfl
  rename_i s i c;simp only [Xc];cases i == IntKind.u8<;>rfl
 | rangeS x=>
  simp only [Vr,Qr,Qdo,Qw]
  cases Q2 tm x<;>try rfl
  rename_i v
  cases v<;>try rfl
  simp only [Q35,fin,Gv]
 | nextS x=>
  simp only [Vr,Qr,Qgm,Qw,J4]
  cases Q2 tm x<;>try rfl
  rename_i b o;simp only []
  cases hp[b]? with
  | none=>rfl
  | some ob=>
   cases ob<;>try rfl
   rename_i s pos;simp only [Xc,Q3r,G9]
   by_cases h0:o=0
   ·subst h0
    by_cases hl:pos<s.length
    ·simp [hl,fin,Q3v,Nat.blt_eq]
    simp [hl,fin,Qh,Xh,Nat.blt_eq]
   simp [h0,fin]
 | runeStr x=>
  simp only [Vr,Qr,Qb4,Qw]
  cases Q2 tm x<;>try rfl
  rename_i v;cases v<;>rfl
 | extCt x y=>
  simp only [Vr,Qr,Qgg,Qw]
  cases Q2 tm x<;>try rfl
  rename_i v
  cases v<;>try (cases Q2 tm y<;>rfl)
  cases Q2 tm y<;>try rfl
  rename_i u
  cases u<;>try rfl
  rename_i s i c;simp only [Xc];cases i == IntKind.u8<;>rfl
 | mkIface t x=>simp only [Vr,Qr,Qaz,Qw];rfl
 | asserT t z agg ok x=>
  simp only [Vr,Qr,Qdc,Qw,G9,Xc,Xr,J2]
  have key:∀ (u:Nat) (v:AV),(if Nat.beq u t=true then if ok=true then k (.tuple [v,.p (.bool true)]) hp else k v hp else if ok=true then (match sOf agg (z.map .p) with
     | some z=>k (.tuple [z,.p (.bool false)]) hp
     | none=>E.fail) else E.fail)=fin E hp k (if u=t then Qh (if ok then .tuple [v,.p (.bool true)] else v) else if ok=true then (sOf agg (z.map .p)).bind fun z=>Qh (.tuple [z,.p (.bool false)]) else none):=by
   intro u v
   by_cases hu:u=t
   ·subst hu;cases ok<;>simp [fin,Qh,Xh]
   have:Nat.beq u t=false:=by rw [← Ng,Bh];exact hu
   simp only [this,hu,if_false,Lu];cases ok
   ·rfl
   simp only [if_true,Vy];cases sOf agg (z.map .p)<;>rfl
  cases Q2 tm x<;>try rfl
  ·rename_i v
   cases v<;>try rfl
   exact key _ _
  exact key _ _
 | eqI neg x=>
  simp only [Vr,Qr,Qn3,Qw]
  cases Q2 tm x<;>try rfl
  rename_i v
  cases v<;>first | rfl | (cases neg<;>rfl)
 | eqF neg x=>
  simp only [Vr,Qr,Qng,Qw]
  cases Q2 tm x<;>try rfl
  rename_i v
  cases v<;>first | rfl | (cases neg<;>rfl)
 | del kk m ke=>
  simp only [Vr,Qr,Qn1,Qw,J4]
  cases Q2 tm m<;>try rfl
  rename_i r;cases Q2 tm ke
  case p kv=>
   simp only []
   cases h:hp[r]? with
   | none=>rfl
   | some o=>
    cases o<;>try rfl
    rename_i es;simp only [Q4f,Xc]
    cases Gc kk kv with
    | false=>rfl
    | true=>
     simp only [if_true,Ba,if_false]
     cases Q3h kv 0 es with
     | none=>rfl
     | some r=>cases r<;>simp [Q3r,fin,Q3v,Qh,Xh]
  all_goals
   simp only []
   cases h:hp[r]? with
   | none=>rfl
   | some o=>cases o<;>rfl
 | insert kk m ke v=>
  simp only [Vr,Qr,Qdg,Qw,J4]
  cases Q2 tm m<;>try rfl
  rename_i r;cases Q2 tm ke
  case p kv=>
   simp only []
   cases h:hp[r]? with
   | none=>rfl
   | some o=>
    cases o<;>try rfl
    rename_i es;simp only [Q4f,Xc]
    cases Gc kk kv with
    | false=>rfl
    | true=>
     simp only [if_true,Ba,if_false]
     cases Q3h kv 0 es with
     | none=>rfl
     | some r=>cases r<;>simp [Q3r,Jw,fin,Q3v]
  all_goals
   simp only []
   cases h:hp[r]? with
   | none=>rfl
   | some o=>cases o<;>rfl
 | lookup kk z agg ok m ke=>
  simp only [Vr,Qr,Qem,Qw,J4];cases Q2 tm m
  case map r=>
   cases Q2 tm ke
   case p kv=>
    simp only []
    cases h:hp[r]? with
    | none=>rfl
    | some o=>
     cases o<;>try rfl
     rename_i es;simp only [Q4f,Xc]
     cases Gc kk kv with
     | false=>rfl
     | true=>
      simp only [if_true,Ba,if_false]
      cases Q3h kv 0 es with
      | none=>rfl
      | some r=>
       cases r with
       | none=>
        simp only [Xr,J2,Vy];cases sOf agg (z.map AV.p)<;>cases ok<;>rfl
       | some r=>cases ok<;>rfl
   all_goals
    simp only []
    cases h:hp[r]? with
    | none=>rfl
    | some o=>cases o<;>rfl
  case p mv=>
   cases mv<;>try (cases Q2 tm ke<;>rfl)
   rename_i ps
   cases Q2 tm ke<;>try rfl
   rename_i kv;simp only [Xc,Qa3]
   cases Gc kk kv with
   | false=>rfl
   | true=>
    simp only [if_true,Ba,if_false]
    cases Qeh kv ps with
    | none=>rfl
    | some r=>
     cases r with
     | none=>
      simp only [Xr,J2,Vy];cases sOf agg (z.map AV.p)<;>cases ok<;>rfl
     | some r=>cases ok<;>rfl
  all_goals (cases Q2 tm ke<;>rfl)
 | makeSlice z bytes l c=>
  simp only [Vr,Qr,Q7n,Qw]
  cases Q2 tm l<;>try rfl
  rename_i v;cases v<;>try rfl
  simp only []
  cases Q2 tm c<;>try rfl
  rename_i v;cases v<;>try rfl
  simp only [Xc,Xr,Q35];rename_i l _ c
  by_cases h1:0≤l<;>by_cases h2:l≤c<;>by_cases h3:c * bytes≤1099511627776<;>simp [h1,h2,h3,fin,Gv]
 | sliceStr x lo hi=>
  simp only [Vr,Qr,Q9b,Qw,Qcx,Q8f,Xc]
  cases Q2 tm x<;>try rfl
  rename_i v;cases v<;>try rfl
  rename_i s;simp only []
  cases Q4a 0 (lo.map (Q2 tm))<;>try rfl
  rename_i l;simp only []
  cases Q4a s.length (hi.map (Q2 tm))<;>try rfl
  rename_i h
  by_cases h1:l≤h<;>by_cases h2:h≤s.length<;>simp [h1,h2,fin,Qh,Xh]
 | slice esz x lo hi=>exact Qbd E tm hp k esz x lo hi
 | slice3 esz x lo hi mx=>
  simp only [Vr,Qr,Qdz,Qcx,Q8f,Xc,Qbd]
  cases Q4a 0 (hi.map (Q2 tm))<;>try rfl
  rename_i h;simp only []
  cases Q4a 0 (mx.map (Q2 tm))<;>try rfl
  rename_i m
  by_cases h0:h=m<;>simp [h0,fin]
 | sliceArr n esz x lo hi=>
  simp only [Vr,Qr,Q96,Qw,Qcx,Q8f,Xc,J4]
  cases Q2 tm x<;>try rfl
  rename_i a off;simp only []
  cases hp[a]? with
  | none=>rfl
  | some o=>
   cases o<;>try rfl
   rename_i cs;simp only []
   cases Q4a 0 (lo.map (Q2 tm))<;>try rfl
   rename_i l;simp only []
   cases Q4a n (hi.map (Q2 tm))<;>try rfl
   rename_i h
   by_cases h0:off+n * esz≤cs.length<;>by_cases h1:l≤h<;>by_cases h2:h≤n<;>simp [h0,h1,h2,fin,Qh,Xh]
 | fieldAddr x off=>simp only [Vr,Qr,Q7w,Qw,Gm];cases Q2 tm x<;>rfl
 | field x off n agg=>
  simp only [Vr,Qr,Qgk,Qw,Ql1]
  cases (Q2 tm x).aggs? <;> try rfl
  simp only [Gm,Q0c,J2,Vy];rename_i cs
  cases Q07 n (cs.drop off) with
  | none=>rfl
  | some cs=>simp only [];cases sOf agg cs<;>rfl
 | indexAddr esz x i=>
  simp only [Vr,Qr,Q7q,Qw,Xc,Qle]
  cases Q2 tm x<;>try rfl
  ·rename_i v;cases v<;>try rfl
   simp only []
   cases Q2 tm i<;>try rfl
   rename_i v;cases v<;>try rfl
   rename_i es rows _ n
   by_cases h0:es=esz<;>cases hi:idx rows n<;>simp [h0,hi,fin,Qh,Xh]
  simp only []
  cases Q2 tm i<;>try rfl
  rename_i v;cases v<;>try rfl
  rename_i es a off len _ n
  by_cases h1:0≤n<;>by_cases h2:n<len<;>simp [h1,h2,fin,Qh,Xh]
 | indexArr len esz x i=>
  simp only [Vr,Qr,Q95,Qw,Xc]
  cases Q2 tm x<;>try rfl
  all_goals
   simp only []
   cases Q2 tm i<;>try rfl
   rename_i v;cases v<;>try rfl
   rename_i n
   by_cases h1:0≤n<;>by_cases h2:n<len<;>simp [h1,h2,fin,Qh,Xh]
 | indexStr x i=>
  simp only [Vr,Qr,Q8y,Qw,Qle]
  cases Q2 tm x<;>try rfl
  rename_i v;cases v<;>try rfl
  simp only []
  cases Q2 tm i<;>try rfl
  rename_i v;cases v<;>try rfl
  simp only [Vy];rename_i s _ n;cases idx s n<;>rfl
 | extract x i=>
  simp only [Vr,Qr,Qbg,Qw]
  cases Q2 tm x<;>try rfl
  ·rename_i v;cases v<;>try rfl
   rename_i vs;simp only [Vy];cases vs[i]? <;> rfl
  rename_i vs;simp only [Vy];cases vs[i]? <;> rfl
 | lenStr x=>
  simp only [Vr,Qr,Qe5,Qw]
  cases Q2 tm x<;>try rfl
  rename_i v;cases v<;>rfl
 | lenSl x=>
  simp only [Vr,Qr,Qhp,Qw]
  cases Q2 tm x<;>try rfl
  rename_i v;cases v<;>rfl
 | lenMap x=>
  simp only [Vr,Qr,Qd9,Qw,J4]
  cases Q2 tm x<;>try rfl
  ·rename_i v;cases v<;>rfl
  rename_i r;simp only []
  cases hp[r]? with
  | none=>rfl
  | some o=>cases o<;>rfl
 | append esz bytes s x=>simp only [Vr,Qr];exact Q82 ..
 | appendT esz bytes s x=>
  simp only [Vr,Qr,Qax,Qw,Q82,Qfu]
  cases hs:Q2 tm s<;>try rfl
  rename_i es a off len;simp only [J4,Xc,Q6h,Q3r]
  cases hp[a]? with
  | none=>rfl
  | some o=>
   cases o<;>try rfl
   rename_i cs;simp only []
   by_cases h0:off+len * esz≤cs.length
   ·have h1:Nat.ble (off+len * esz) cs.length=true:=by simpa using h0
    rw [h1,if_pos h0,if_pos rfl];rw [Cq]
    cases hq:Qaf (hp.set a (.cells (cs.take (off+len * esz)))) hp.length esz bytes (.slice es a off len) (Q2 tm x) with
    | none=>rfl
    | some q=>
     obtain ⟨v,e⟩:=q;show k v (e.apply (hp.set a (.cells (cs.take (off+len * esz)))) (hp.set a (.cells (cs.take (off+len * esz)))).length)=k v ((e.pre a (.cells (cs.take (off+len * esz)))).apply hp hp.length);rw [Qdf (Qfh hq),Cq]
   have h1:Nat.ble (off+len * esz) cs.length=false:=by rw [← Ng,Mc];exact h0
   rw [h1,if_neg h0];rfl
 | copyB d s=>
  have hc:∀ new,(match Q2 tm d with
    | .p .nilSlice=>k (.p (.int .i64 0)) hp
    | .slice es a off len=>Qee E hp a fun
     | .cells cs=>chk E (Nat.beq es 1&&(Nat.ble (off+len) cs.length&&Nat.ble 1 len))
      (Qfp len new cs off fun n cs=>Qiy hp a (.cells cs) fun hp=>k (.p (.int .i64 n)) hp)
     | _=>E.fail
    | _=>E.fail)=fin E hp k (Qf4 hp (Q2 tm d) new):=fun new=>by
   simp only [J4,Xc,Qfp,Q6h,Qci,Q4b,Q3r,Qf4]
   cases Q2 tm d<;>try rfl
   ·rename_i v;cases v<;>rfl
   rename_i es a off len;simp only []
   cases hp[a]? with
   | none=>rfl
   | some o=>
    cases o<;>try rfl
    rename_i cs;simp only []
    by_cases h1:es=1<;>by_cases h2:off+len≤cs.length<;>by_cases h3:1≤len<;>simp [h1,h2,h3,fin,Q3v]<;>omega
  simp only [Vr,Qr,Qhn,Qw,Qpe]
  cases Qk6 hp (Q2 tm s) with
  | none=>rfl
  | some new=>exact hc new
 | max x y=>
  simp only [Vr,Qr,Qnk,Qw,G9]
  cases Q2 tm x<;>try rfl
  rename_i v;cases v<;>try rfl
  simp only []
  cases Q2 tm y<;>try rfl
  rename_i v;cases v<;>try rfl
  simp [fin,Qh,Xh]
 | min x y=>
  simp only [Vr,Qr,Qn0,Qw,G9]
  cases Q2 tm x<;>try rfl
  rename_i v;cases v<;>try rfl
  simp only []
  cases Q2 tm y<;>try rfl
  rename_i v;cases v<;>try rfl
  simp [fin,Qh,Xh]
end
end
end Go.Av
