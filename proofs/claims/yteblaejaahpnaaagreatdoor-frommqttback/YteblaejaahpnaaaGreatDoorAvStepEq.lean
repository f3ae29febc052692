/- Part of the proof of FrommqttBack: for every input the law returns true; no condition. -/
import Derived.Test.YteblaejaahpnaaaGreatDoorAvStep
set_option linter.all false
namespace Go.Av
noncomputable section
universe u
section
variable {α:Type u} (E:Env α)
def fin (E:Env α) (hp:List AObj) (k:AV→List AObj → α):Option (AV×Eff) → α
 | some (v,e)=>k v (e.apply hp hp.length)
 | none=>E.fail
theorem Qmr (hp:List AObj) (k:AV→List AObj → α):fin E hp k none=E.fail:=rfl
theorem Qm9 (hp:List AObj) (k:AV→List AObj → α) (v:AV) (e:Eff):fin E hp k (some (v,e))=k v (e.apply hp hp.length):=rfl
theorem Q2i {β:Type} (hp:List AObj) (k:AV→List AObj → α) (o:Option β) (f : β→Option (AV×Eff)):fin E hp k (o.bind f)=(match o with
  | some b=>fin E hp k (f b)
  | none=>E.fail):=by cases o<;>rfl
theorem Qui {β:Type} (hp:List AObj) (k:AV→List AObj → α) (o:Option β) (f : β→AV×Eff):fin E hp k (o.map f)=(match o with
  | some b=>fin E hp k (some (f b))
  | none=>E.fail):=by cases o<;>rfl
theorem Q69 (hp:List AObj) (o:AObj):({ new:=some o }:Eff).apply hp hp.length=hp ++ [o]:=by simp [Eff.apply,plc]
theorem Qbd (hp:List AObj) (n:Nat) (a:Nat) (o:AObj):({ set:=some (a,o) }:Eff).apply hp n=hp.set a o:=by simp [Eff.apply]
theorem Qtk (hp:List AObj) (a:Nat) (o o':AObj):({ set:=some (a,o),new:=some o' }:Eff).apply hp hp.length=hp.set a o ++ [o']:=by simp [Eff.apply,plc]
theorem Jz (hp:List AObj) (n:Nat):({}:Eff).apply hp n=hp:=rfl

theorem Z2s (hp:List AObj) (esz bytes:Nat) (s:AV) (new:List AV) (n:Nat) (k:AV→List AObj → α) :
  Z0o E hp esz bytes s new n k=fin E hp k (Ql6 hp hp.length esz bytes s new n):=by
 unfold Z0o Ql6
 by_cases hn:n=0
 ·subst hn;simp only [ifB,Ak]
  cases s with
  | p v=>cases v<;>rfl
  | _=>rfl
 ·have:Nat.beq n 0=false:=by cases n<;>first | rfl | simp_all
  simp only [this,ifB,hn,Al]
  cases s with
  | p v=>
   cases v<;>(try rfl) <;>
   (by_cases h3:(n+4096) * bytes≤17592186044416<;>simp [Jm,Qa0,h3,fin,Q69])
  | slice es a off len=>
   simp only [Q3x]
   cases h:hp[a]? with
   | none=>rfl
   | some o=>
    cases o<;>simp only [Jm,Q3q,Q5i,Qbw,Qa0,fin]<;>(try rfl)
    by_cases h1:es=esz<;>rename_i cs<;>by_cases h2:off+len * esz=cs.length<;>by_cases h3:(len+n+4096) * bytes≤17592186044416<;>simp [h1,h2,h3,Qtk,List.length_set]
  | _=>rfl

theorem Z2v (hp:List AObj) (K:List AV → α) (v:AV):Z91 E hp K v=(match Qwg hp v with
  | some new=>K new
  | none=>E.fail):=by
 unfold Z91 Qwg
 cases v<;>try rfl
 ·rename_i p;cases p<;>try rfl
  ·simp [J5]
  rename_i es rows;simp only [Jm,J5]
  by_cases h0:es=1
  ·simp [h0]
  have:Nat.beq es 1=false:=by rw [← Nw,Bv];exact h0
  simp [h0,this]
 rename_i es b off n;simp only [Q3x,Q3q,Jm,Q6r]
 cases hp[b]? with
 | none=>rfl
 | some o=>
  cases o<;>try rfl
  rename_i cs
  by_cases h0:es=1
  ·simp only [h0,Ak,Dd];cases Q6h n (cs.drop off)<;>rfl
  have:Nat.beq es 1=false:=by rw [← Nw,Bv];exact h0
  simp [h0,this]
theorem Qgy (tm:List AV) (hp:List AObj) (k:AV→List AObj → α) (esz bytes:Nat) (s x:Opd):Qbn E tm hp k esz bytes s x=fin E hp k (Qjj hp hp.length esz bytes (Q8 tm s) (Q8 tm x)):=by
 simp only [Qjj,Qbn,Zj,Q3x,Jm,Z2s,J5,Q3q,Q6r]
 cases Q8 tm x<;>try rfl
 ·rename_i v;cases v<;>try rfl
  ·rename_i b
   by_cases h0:esz=1
   ·simp [h0]
   have:Nat.beq esz 1=false:=by rw [← Nw,Bv];exact h0
   simp [h0,this,Qmr]
  rename_i es rows
  by_cases h0:es=esz
  ·simp [h0]
  have:Nat.beq es esz=false:=by rw [← Nw,Bv];exact h0
  simp [h0,this,Qmr]
 rename_i es b off n;simp only []
 cases hp[b]? with
 | none=>rfl
 | some o=>
  cases o<;>try rfl
  rename_i cs
  by_cases h0:es=esz
  ·simp only [h0,Ak,Q2i,Dd];cases Q6h (n * esz) (cs.drop off)<;>rfl
  have:Nat.beq es esz=false:=by rw [← Nw,Bv];exact h0
  simp [h0,this,Qmr]
theorem Qkj (tm:List AV) (hp:List AObj) (k:AV→List AObj → α) (esz:Nat) (x:Opd) (lo hi:Option Opd):Qhl E tm hp k esz x lo hi=fin E hp k (Qsd esz (Q8 tm x) (lo.map (Q8 tm)) (hi.map (Q8 tm))):=by
 simp only [Qsd,Qhl,Zj,Qlf,Qho,Jm]
 cases Q8 tm x<;>try rfl
 ·rename_i v;cases v<;>try rfl
  rename_i es s;simp only []
  cases Qc9 0 (lo.map (Q8 tm))<;>try rfl
  rename_i l;simp only []
  cases Qc9 s.length (hi.map (Q8 tm))<;>try rfl
  rename_i h
  by_cases h0:es=esz<;>by_cases h1:l≤h<;>by_cases h2:h≤s.length<;>simp [h0,h1,h2,fin,Qp,Jz]
 ·rename_i es a off s;simp only []
  cases Qc9 0 (lo.map (Q8 tm))<;>try rfl
  rename_i l;simp only []
  cases Qc9 s (hi.map (Q8 tm))<;>try rfl
  rename_i h
  by_cases h0:es=esz<;>by_cases h1:l≤h<;>by_cases h2:h≤s<;>simp [h0,h1,h2,fin,Qp,Jz]

theorem Qj3 (tm:List AV) (hp:List AObj) (k:AV→List AObj → α) (c:COp) (hc:c.isCall=false) :
  Q25 E tm hp k c=fin E hp k (Zh E.glob tm hp hp.length c):=by
 cases c with
 | call f args=>cases hc
 | callv f args=>cases hc
 | move x=>simp only [Q25,Zh,Qvx,Zj];rfl
 | pick c a b=>
  simp only [Q25,Zh,Qx1,Zj,Q5l]
  cases Q8 tm c<;>try rfl
  rename_i v;cases v<;>try rfl
  rename_i b;cases b<;>rfl
 | alloc z=>simp only [Q25,Zh,Qr8,J5,Qa0,Qm9,Q69]
 | box x=>
  simp only [Q25,Zh,Z0g,Zj,Qiz,Qa0,Qui,Qm9,Q69]
  cases (Q8 tm x).cells? <;> rfl
 | build z ps=>
  simp only [Q25,Zh,Qrk,J5,Qmh,Q2i];cases Q9l tm (z.map AV.p) ps<;>rfl
 | buildSlice z len esz ps=>
  simp only [Q25,Zh,Qek,J5,Qmh,Qa0,Qui,Qm9,Q69];cases Q9l tm ((List.replicate len z).flatten.map AV.p) ps<;>rfl
 | load n agg x=>
  simp only [Q25,Zh,Qwc,Zj,Qcx,Q6r,Q3w,Q2i]
  cases Q3b E.glob hp (Q8 tm x) with
  | none=>rfl
  | some cs=>
   simp only []
   cases Q6h n cs with
   | none=>rfl
   | some cs=>simp only [];cases sOf agg cs<;>rfl
 | store n x y=>
  simp only [Q25,Zh,Qs1,Zj,Q3x,Qiz,Jm,Qcc,Qbw]
  cases Q8 tm x<;>try rfl
  rename_i a off;simp only []
  cases hp[a]? with
  | none=>rfl
  | some o=>
   cases o<;>try rfl
   rename_i cs;simp only []
   cases (Q8 tm y).cells? with
   | none=>rfl
   | some v=>
    simp only []
    by_cases h1:v.length=n<;>by_cases h2:off+n≤cs.length<;>simp [h1,h2,fin,Qbd]
 | nilCheck x=>
  simp only [Q25,Zh,Qj0,Zj]
  cases Q8 tm x<;>try rfl
  ·rename_i v;cases v<;>try rfl
   rename_i fn a b;cases fn<;>rfl
  rename_i fn a b;cases fn<;>rfl
 | ari op x y=>
  simp only [Q25,Zh,Z0n,Zj]
  cases Q8 tm x<;>try rfl
  rename_i v
  cases v<;>try rfl
  ·simp only []
   cases Q8 tm y<;>try rfl
   rename_i v
   cases v<;>try rfl
   simp only [Z23,Jm];rename_i i x j y;cases Qka op i j
   ·rfl
   simp only [Ak,Q2i];cases Z2r op i x y<;>rfl
  simp only []
  cases Q8 tm y<;>try rfl
  rename_i v
  cases v<;>try rfl
  cases op<;>try rfl
  simp only [Jm];rename_i s t
  by_cases h:s.length+t.length≤4611686018427387904<;>simp [h,fin,Qp,Jz]
 | cmp op x y=>
  simp only [Q25,Zh,Qzt,Zj,Q2i,E.cmp.2,E.scmp.2]
  cases Q8 tm x<;>try rfl
  rename_i v
  cases v<;>try rfl
  ·simp only []
   cases Q8 tm y<;>try rfl
   rename_i v
   cases v<;>try rfl
   rename_i i x j y;simp only [Jm,Z4a];cases i == j<;>rfl
  simp only []
  cases Q8 tm y<;>try rfl
  rename_i v;cases v<;>rfl
 | eqB neg x y=>
  simp only [Q25,Zh,Z0v,Zj]
  cases Q8 tm x<;>try rfl
  rename_i v
  cases v<;>try rfl
  simp only []
  cases Q8 tm y<;>try rfl
  rename_i v
  cases v<;>try rfl
  cases neg<;>rfl
 | eqP neg x y=>
  simp only [Q25,Zh,Z10,Zj]
  cases Q8 tm x<;>try rfl
  ·rename_i v
   cases v<;>try rfl
   simp only []
   cases Q8 tm y<;>try rfl
   rename_i v;cases v<;>rfl
  simp only []
  cases Q8 tm y<;>try rfl
  rename_i v;cases v<;>rfl
 | eqAgg neg kinds x y=>
  simp only [Q25,Zh,Qrp,Zj,Qur]
  cases (Q8 tm x).aggs? <;> try rfl
  simp only []
  cases (Q8 tm y).aggs? <;> try rfl
  simp only [Qkq,Q2i,Q5l];rename_i cs ds;cases Wa kinds cs ds<;>rfl
 | not x=>
  simp only [Q25,Zh,Z0z,Zj];cases Q8 tm x<;>try rfl
  rename_i v;cases v<;>rfl
 | neg x=>
  simp only [Q25,Zh,Z0h,Zj];cases Q8 tm x<;>try rfl
  rename_i v;cases v<;>rfl
 | conv i x=>
  simp only [Q25,Zh,Qwj,Zj];cases Q8 tm x<;>try rfl
  rename_i v;cases v<;>rfl
 | bytesOf x=>
  simp only [Q25,Zh,Ql1,Zj];cases Q8 tm x<;>try rfl
  rename_i v;cases v<;>try rfl
  simp only [J5,Qa0,fin,Q69]
 | strOf x=>
  simp only [Q25,Zh,Qrd,Zj,Q3x]
  cases Q8 tm x<;>try rfl
  ·rename_i v;cases v<;>rfl
  rename_i es a off len;simp only []
  cases hp[a]? with
  | none=>rfl
  | some o=>
   cases o<;>try rfl
   simp only [Q3q,Q6r,Qix,Q2i];rename_i cs
   cases Q6h len (cs.drop off) with
   | none=>rfl
   | some cs=>simp only [];cases Qqy cs<;>rfl
 | makeFunc fn a b=>simp only [Q25,Zh,Qiy,Q34];rfl
 | makeMap=>simp only [Q25,Zh,Qkh,Qa0,fin,Q69]
 | bad=>rfl
 | sliceZ x=>
  simp only [Q25,Zh,Qod,Zj]
  cases Q8 tm x<;>try rfl
  rename_i v;cases v<;>rfl
 | eqN neg x=>
  simp only [Q25,Zh,Qzs,Zj]
  cases Q8 tm x<;>try rfl
  ·rename_i v
   cases v<;>try rfl
   ·cases neg<;>rfl
   rename_i es rows;simp only [Jm];cases rows.isEmpty<;>rfl
  rename_i es b off len;simp only [Jm]
  by_cases h:0<len<;>simp [h,fin,Qp,Jz,Nat.blt_eq]
 | extIx x y=>
  simp only [Q25,Zh,Qrj,Zj]
  cases Q8 tm x<;>try rfl
  rename_i v
  cases v<;>try (cases Q8 tm y<;>rfl)
  cases Q8 tm y<;>try rfl
  rename_i u
  cases u<;>try rfl
  rename_i s i c;simp only [Jm];cases i == IntKind.u8<;>rfl
 | rangeS x=>
  simp only [Q25,Zh,Qnj,Zj]
  cases Q8 tm x<;>try rfl
  rename_i v
  cases v<;>try rfl
  simp only [Qa0,fin,Q69]
 | nextS x=>
  simp only [Q25,Zh,Qsf,Zj,Q3x]
  cases Q8 tm x<;>try rfl
  rename_i b o;simp only []
  cases hp[b]? with
  | none=>rfl
  | some ob=>
   cases ob<;>try rfl
   rename_i s pos;simp only [Jm,Qbw,Q5l]
   by_cases h0:o=0
   ·subst h0
    by_cases hl:pos<s.length
    ·simp [hl,fin,Qbd,Nat.blt_eq]
    simp [hl,fin,Qp,Jz,Nat.blt_eq]
   simp [h0,fin]
 | runeStr x=>
  simp only [Q25,Zh,Qkn,Zj]
  cases Q8 tm x<;>try rfl
  rename_i v;cases v<;>rfl
 | extCt x y=>
  simp only [Q25,Zh,Qs3,Zj]
  cases Q8 tm x<;>try rfl
  rename_i v
  cases v<;>try (cases Q8 tm y<;>rfl)
  cases Q8 tm y<;>try rfl
  rename_i u
  cases u<;>try rfl
  rename_i s i c;simp only [Jm];cases i == IntKind.u8<;>rfl
 | mkIface t x=>simp only [Q25,Zh,Qkd,Zj];rfl
 | asserT t z agg ok x=>
  simp only [Q25,Zh,Qnb,Zj,Q5l,Jm,J5,Q3w]
  have key:∀ (u:Nat) (v:AV),(if Nat.beq u t=true then if ok=true then k (.tuple [v,.p (.bool true)]) hp else k v hp else if ok=true then (match sOf agg (z.map .p) with
     | some z=>k (.tuple [z,.p (.bool false)]) hp
     | none=>E.fail) else E.fail)=fin E hp k (if u=t then Qp (if ok then .tuple [v,.p (.bool true)] else v) else if ok=true then (sOf agg (z.map .p)).bind fun z=>Qp (.tuple [z,.p (.bool false)]) else none):=by
   intro u v
   by_cases hu:u=t
   ·subst hu;cases ok<;>simp [fin,Qp,Jz]
   have:Nat.beq u t=false:=by rw [← Nw,Bv];exact hu
   simp only [this,hu,Al,Mh];cases ok
   ·rfl
   simp only [Ak,Q2i];cases sOf agg (z.map .p)<;>rfl
  cases Q8 tm x<;>try rfl
  ·rename_i v
   cases v<;>try rfl
   exact key _ _
  exact key _ _
 | eqI neg x=>
  simp only [Q25,Zh,Z01,Zj]
  cases Q8 tm x<;>try rfl
  rename_i v
  cases v<;>first | rfl | (cases neg<;>rfl)
 | eqF neg x=>
  simp only [Q25,Zh,Z0x,Zj]
  cases Q8 tm x<;>try rfl
  rename_i v
  cases v<;>first | rfl | (cases neg<;>rfl)
 | del kk m ke=>
  simp only [Q25,Zh,Z0m,Zj,Q3x]
  cases Q8 tm m<;>try rfl
  rename_i r;cases Q8 tm ke
  case p kv=>
   simp only []
   cases h:hp[r]? with
   | none=>rfl
   | some o=>
    cases o<;>try rfl
    rename_i es;simp only [Qca,Jm]
    cases Q5y kk kv with
    | false=>rfl
    | true=>
     simp only [Ak,Bo,Al]
     cases Qav kv 0 es with
     | none=>rfl
     | some r=>cases r<;>simp [Qbw,fin,Qbd,Qp,Jz]
  all_goals
   simp only []
   cases h:hp[r]? with
   | none=>rfl
   | some o=>cases o<;>rfl
 | insert kk m ke v=>
  simp only [Q25,Zh,Qnn,Zj,Q3x]
  cases Q8 tm m<;>try rfl
  rename_i r;cases Q8 tm ke
  case p kv=>
   simp only []
   cases h:hp[r]? with
   | none=>rfl
   | some o=>
    cases o<;>try rfl
    rename_i es;simp only [Qca,Jm]
    cases Q5y kk kv with
    | false=>rfl
    | true=>
     simp only [Ak,Bo,Al]
     cases Qav kv 0 es with
     | none=>rfl
     | some r=>cases r<;>simp [Qbw,Q5i,fin,Qbd]
  all_goals
   simp only []
   cases h:hp[r]? with
   | none=>rfl
   | some o=>cases o<;>rfl
 | lookup kk z agg ok m ke=>
  simp only [Q25,Zh,Qo8,Zj,Q3x];cases Q8 tm m
  case map r=>
   cases Q8 tm ke
   case p kv=>
    simp only []
    cases h:hp[r]? with
    | none=>rfl
    | some o=>
     cases o<;>try rfl
     rename_i es;simp only [Qca,Jm]
     cases Q5y kk kv with
     | false=>rfl
     | true=>
      simp only [Ak,Bo,Al]
      cases Qav kv 0 es with
      | none=>rfl
      | some r=>
       cases r with
       | none=>
        simp only [J5,Q3w,Q2i];cases sOf agg (z.map AV.p)<;>cases ok<;>rfl
       | some r=>cases ok<;>rfl
   all_goals
    simp only []
    cases h:hp[r]? with
    | none=>rfl
    | some o=>cases o<;>rfl
  case p mv=>
   cases mv<;>try (cases Q8 tm ke<;>rfl)
   rename_i ps
   cases Q8 tm ke<;>try rfl
   rename_i kv;simp only [Jm,Qir]
   cases Q5y kk kv with
   | false=>rfl
   | true=>
    simp only [Ak,Bo,Al]
    cases Qor kv ps with
    | none=>rfl
    | some r=>
     cases r with
     | none=>
      simp only [J5,Q3w,Q2i];cases sOf agg (z.map AV.p)<;>cases ok<;>rfl
     | some r=>cases ok<;>rfl
  all_goals (cases Q8 tm ke<;>rfl)
 | makeSlice z bytes l c=>
  simp only [Q25,Zh,Qgi,Zj]
  cases Q8 tm l<;>try rfl
  rename_i v;cases v<;>try rfl
  simp only []
  cases Q8 tm c<;>try rfl
  rename_i v;cases v<;>try rfl
  simp only [Jm,J5,Qa0];rename_i l _ c
  by_cases h1:0≤l<;>by_cases h2:l≤c<;>by_cases h3:c * bytes≤1099511627776<;>simp [h1,h2,h3,fin,Q69]
 | sliceStr x lo hi=>
  simp only [Q25,Zh,Qhq,Zj,Qlf,Qho,Jm]
  cases Q8 tm x<;>try rfl
  rename_i v;cases v<;>try rfl
  rename_i s;simp only []
  cases Qc9 0 (lo.map (Q8 tm))<;>try rfl
  rename_i l;simp only []
  cases Qc9 s.length (hi.map (Q8 tm))<;>try rfl
  rename_i h
  by_cases h1:l≤h<;>by_cases h2:h≤s.length<;>simp [h1,h2,fin,Qp,Jz]
 | slice esz x lo hi=>exact Qkj E tm hp k esz x lo hi
 | slice3 esz x lo hi mx=>
  simp only [Q25,Zh,Qo3,Qlf,Qho,Jm,Qkj]
  cases Qc9 0 (hi.map (Q8 tm))<;>try rfl
  rename_i h;simp only []
  cases Qc9 0 (mx.map (Q8 tm))<;>try rfl
  rename_i m
  by_cases h0:h=m<;>simp [h0,fin]
 | sliceArr n esz x lo hi=>
  simp only [Q25,Zh,Qig,Zj,Qlf,Qho,Jm,Q3x]
  cases Q8 tm x<;>try rfl
  rename_i a off;simp only []
  cases hp[a]? with
  | none=>rfl
  | some o=>
   cases o<;>try rfl
   rename_i cs;simp only []
   cases Qc9 0 (lo.map (Q8 tm))<;>try rfl
   rename_i l;simp only []
   cases Qc9 n (hi.map (Q8 tm))<;>try rfl
   rename_i h
   by_cases h0:off+n * esz≤cs.length<;>by_cases h1:l≤h<;>by_cases h2:h≤n<;>simp [h0,h1,h2,fin,Qp,Jz]
 | fieldAddr x off=>simp only [Q25,Zh,Qgv,Zj,Q3q];cases Q8 tm x<;>rfl
 | field x off n agg=>
  simp only [Q25,Zh,Qsl,Zj,Qur]
  cases (Q8 tm x).aggs? <;> try rfl
  simp only [Q3q,Q6r,Q3w,Q2i];rename_i cs
  cases Q6h n (cs.drop off) with
  | none=>rfl
  | some cs=>simp only [];cases sOf agg cs<;>rfl
 | indexAddr esz x i=>
  simp only [Q25,Zh,Qgn,Zj,Jm,Qxi]
  cases Q8 tm x<;>try rfl
  ·rename_i v;cases v<;>try rfl
   simp only []
   cases Q8 tm i<;>try rfl
   rename_i v;cases v<;>try rfl
   rename_i es rows _ n
   by_cases h0:es=esz<;>cases hi:idx rows n<;>simp [h0,hi,fin,Qp,Jz]
  simp only []
  cases Q8 tm i<;>try rfl
  rename_i v;cases v<;>try rfl
  rename_i es a off len _ n
  by_cases h1:0≤n<;>by_cases h2:n<len<;>simp [h1,h2,fin,Qp,Jz]
 | indexArr len esz x i=>
  simp only [Q25,Zh,Qhw,Zj,Jm]
  cases Q8 tm x<;>try rfl
  all_goals
   simp only []
   cases Q8 tm i<;>try rfl
   rename_i v;cases v<;>try rfl
   rename_i n
   by_cases h1:0≤n<;>by_cases h2:n<len<;>simp [h1,h2,fin,Qp,Jz]
 | indexStr x i=>
  simp only [Q25,Zh,Qio,Zj,Qxi]
  cases Q8 tm x<;>try rfl
  rename_i v;cases v<;>try rfl
  simp only []
  cases Q8 tm i<;>try rfl
  rename_i v;cases v<;>try rfl
  simp only [Q2i];rename_i s _ n;cases idx s n<;>rfl
 | extract x i=>
  simp only [Q25,Zh,Ql4,Zj]
  cases Q8 tm x<;>try rfl
  ·rename_i v;cases v<;>try rfl
   rename_i vs;simp only [Q2i];cases vs[i]? <;> rfl
  rename_i vs;simp only [Q2i];cases vs[i]? <;> rfl
 | lenStr x=>
  simp only [Q25,Zh,Qnc,Zj]
  cases Q8 tm x<;>try rfl
  rename_i v;cases v<;>rfl
 | lenSl x=>
  simp only [Q25,Zh,Qse,Zj]
  cases Q8 tm x<;>try rfl
  rename_i v;cases v<;>rfl
 | lenMap x=>
  simp only [Q25,Zh,Qnp,Zj,Q3x]
  cases Q8 tm x<;>try rfl
  ·rename_i v;cases v<;>rfl
  rename_i r;simp only []
  cases hp[r]? with
  | none=>rfl
  | some o=>cases o<;>rfl
 | append esz bytes s x=>simp only [Q25,Zh];exact Qgy ..
 | appendT esz bytes s x=>
  simp only [Q25,Zh,Qkt,Zj,Qgy,Qp4]
  cases hs:Q8 tm s<;>try rfl
  rename_i es a off len;simp only [Q3x,Jm,Qf9,Qbw]
  cases hp[a]? with
  | none=>rfl
  | some o=>
   cases o<;>try rfl
   rename_i cs;simp only []
   by_cases h0:off+len * esz≤cs.length
   ·have h1:Nat.ble (off+len * esz) cs.length=true:=by simpa using h0
    rw [h1,Af h0,Af rfl];rw [Bi]
    cases hq:Qjj (hp.set a (.cells (cs.take (off+len * esz)))) hp.length esz bytes (.slice es a off len) (Q8 tm x) with
    | none=>rfl
    | some q=>
     obtain ⟨v,e⟩:=q;show k v (e.apply (hp.set a (.cells (cs.take (off+len * esz)))) (hp.set a (.cells (cs.take (off+len * esz)))).length)=k v ((e.pre a (.cells (cs.take (off+len * esz)))).apply hp hp.length);rw [Qnu (Qqf hq),Bi]
   have h1:Nat.ble (off+len * esz) cs.length=false:=by rw [← Nw,Ln];exact h0
   rw [h1,Ae h0];rfl
 | copyB d s=>
  have hc:∀ new,(match Q8 tm d with
    | .p .nilSlice=>k (.p (.int .i64 0)) hp
    | .slice es a off len=>Qns E hp a fun
     | .cells cs=>chk E (Nat.beq es 1&&(Nat.ble (off+len) cs.length&&Nat.ble 1 len))
      (Qi3 len new cs off fun n cs=>Qu8 hp a (.cells cs) fun hp=>k (.p (.int .i64 n)) hp)
     | _=>E.fail
    | _=>E.fail)=fin E hp k (Qqi hp (Q8 tm d) new):=fun new=>by
   simp only [Q3x,Jm,Qi3,Qf9,Qls,Qcc,Qbw,Qqi]
   cases Q8 tm d<;>try rfl
   ·rename_i v;cases v<;>rfl
   rename_i es a off len;simp only []
   cases hp[a]? with
   | none=>rfl
   | some o=>
    cases o<;>try rfl
    rename_i cs;simp only []
    by_cases h1:es=1<;>by_cases h2:off+len≤cs.length<;>by_cases h3:1≤len<;>simp [h1,h2,h3,fin,Qbd]<;>omega
  simp only [Q25,Zh,Qrr,Zj,Z2v]
  cases Qwg hp (Q8 tm s) with
  | none=>rfl
  | some new=>exact hc new
 | max x y=>
  simp only [Q25,Zh,Qzu,Zj,Q5l]
  cases Q8 tm x<;>try rfl
  rename_i v;cases v<;>try rfl
  simp only []
  cases Q8 tm y<;>try rfl
  rename_i v;cases v<;>try rfl
  simp [fin,Qp,Jz]
 | min x y=>
  simp only [Q25,Zh,Z0e,Zj,Q5l]
  cases Q8 tm x<;>try rfl
  rename_i v;cases v<;>try rfl
  simp only []
  cases Q8 tm y<;>try rfl
  rename_i v;cases v<;>try rfl
  simp [fin,Qp,Jz]
end
end
end Go.Av
