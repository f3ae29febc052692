/- Part of FromsnNames: the law returns true; no condition. -/
import Derived.Test.YtfgpphgmjcnleaaGreatDoorAvStep
set_option linter.all false
namespace Go.Av
noncomputable section
universe u
section
variable {α:Type u} (E:Env α)
def fin (E:Env α) (hp:List AObj) (k:AV->List AObj->α):Option (AV×Eff)->α
 | some (v,e)=>k v (e.apply hp hp.length)
 | none=>E.fail
theorem Qdv (hp:List AObj) (k:AV->List AObj->α):fin E hp k none=E.fail:=rfl
theorem Qci (hp:List AObj) (k:AV->List AObj->α) (v:AV) (e:Eff):fin E hp k (some (v,e))=k v (e.apply hp hp.length):=rfl
theorem V0 {β:Type} (hp:List AObj) (k:AV->List AObj->α) (o:Option β) (f : β->Option (AV×Eff)):fin E hp k (o.bind f)=(match o with
  | some b=>fin E hp k (f b)
  | none=>E.fail):=by cases o<;>rfl
theorem Qky {β:Type} (hp:List AObj) (k:AV->List AObj->α) (o:Option β) (f : β->AV×Eff):fin E hp k (o.map f)=(match o with
  | some b=>fin E hp k (some (f b))
  | none=>E.fail):=by cases o<;>rfl
theorem Gb (hp:List AObj) (o:AObj):({ new:=some o }:Eff).apply hp hp.length=hp ++ [o]:=by simp [Eff.apply,plc]
theorem Q39 (hp:List AObj) (n:Nat) (a:Nat) (o:AObj):({ set:=some (a,o) }:Eff).apply hp n=hp.set a o:=by simp [Eff.apply]
theorem Qis (hp:List AObj) (a:Nat) (o o':AObj):({ set:=some (a,o),new:=some o' }:Eff).apply hp hp.length=hp.set a o ++ [o']:=by simp [Eff.apply,plc]
theorem Yp (hp:List AObj) (n:Nat):({}:Eff).apply hp n=hp:=rfl

theorem Qpd (hp:List AObj) (esz bytes:Nat) (s:AV) (new:List AV) (n:Nat) (k:AV->List AObj->α) :
  Qoe E hp esz bytes s new n k=fin E hp k (Qbr hp hp.length esz bytes s new n):=by
 unfold Qoe Qbr
 by_cases hn:n=0
 ·subst hn;simp only [ifB,Ak]
  cases s with
  | p v=>cases v<;>rfl
  | _=>rfl
 ·have:Nat.beq n 0=false:=by cases n<;>first | rfl | simp_all
  simp only [this,ifB,hn,Al]
  cases s with
  | p v=>
   cases v<;>(try rfl) <;>
   (by_cases h3:(n+4096) * bytes≤17592186044416<;>simp [Yi,Q2j,h3,fin,Gb])
  | slice es a off len=>
   simp only [Uc]
   cases h:hp[a]? with
   | none=>rfl
   | some o=>
    cases o<;>simp only [Yi,U8,Vn,Q3y,Q2j,fin]<;>(try rfl)
    by_cases h1:es=esz<;>rename_i cs<;>by_cases h2:off+len * esz=cs.length<;>by_cases h3:(len+n+4096) * bytes≤17592186044416<;>simp [h1,h2,h3,Qis,List.length_set]
  | _=>rfl

theorem Qq8 (hp:List AObj) (K:List AV->α) (v:AV):Qu9 E hp K v=(match Qkp hp v with
  | some new=>K new
  | none=>E.fail):=by
 unfold Qu9 Qkp
 cases v<;>try rfl
 ·rename_i p;cases p<;>try rfl
  ·simp [Zu]
  rename_i es rows;simp only [Yi,Zu]
  by_cases h0:es=1
  ·simp [h0]
  have:Nat.beq es 1=false:=by rw [← Nf,Nu];exact h0
  simp [h0,this]
 rename_i es b off n;simp only [Uc,U8,Yi,U7]
 cases hp[b]? with
 | none=>rfl
 | some o=>
  cases o<;>try rfl
  rename_i cs
  by_cases h0:es=1
  ·simp only [h0,Ak,By];cases Gd n (cs.drop off)<;>rfl
  have:Nat.beq es 1=false:=by rw [← Nf,Nu];exact h0
  simp [h0,this]
theorem Q7x (tm:List AV) (hp:List AObj) (k:AV->List AObj->α) (esz bytes:Nat) (s x:Opd):Q48 E tm hp k esz bytes s x=fin E hp k (Qb2 hp hp.length esz bytes (Q1 tm s) (Q1 tm x)):=by
 simp only [Qb2,Q48,Qi,Uc,Yi,Qpd,Zu,U8,U7]
 cases Q1 tm x<;>try rfl
 ·rename_i v;cases v<;>try rfl
  ·rename_i b
   by_cases h0:esz=1
   ·simp [h0]
   have:Nat.beq esz 1=false:=by rw [← Nf,Nu];exact h0
   simp [h0,this,Qdv]
  rename_i es rows
  by_cases h0:es=esz
  ·simp [h0]
  have:Nat.beq es esz=false:=by rw [← Nf,Nu];exact h0
  simp [h0,this,Qdv]
 rename_i es b off n;simp only []
 cases hp[b]? with
 | none=>rfl
 | some o=>
  cases o<;>try rfl
  rename_i cs
  by_cases h0:es=esz
  ·simp only [h0,Ak,V0,By];cases Gd (n * esz) (cs.drop off)<;>rfl
  have:Nat.beq es esz=false:=by rw [← Nf,Nu];exact h0
  simp [h0,this,Qdv]
theorem Qbz (tm:List AV) (hp:List AObj) (k:AV->List AObj->α) (esz:Nat) (x:Opd) (lo hi:Option Opd):Q8y E tm hp k esz x lo hi=fin E hp k (Qic esz (Q1 tm x) (lo.map (Q1 tm)) (hi.map (Q1 tm))):=by
 simp only [Qic,Q8y,Qi,Qd9,Q92,Yi]
 cases Q1 tm x<;>try rfl
 ·rename_i v;cases v<;>try rfl
  rename_i es s;simp only []
  cases Q4m 0 (lo.map (Q1 tm))<;>try rfl
  rename_i l;simp only []
  cases Q4m s.length (hi.map (Q1 tm))<;>try rfl
  rename_i h
  by_cases h0:es=esz<;>by_cases h1:l≤h<;>by_cases h2:h≤s.length<;>simp [h0,h1,h2,fin,Qd,Yp]
 ·rename_i es a off s;simp only []
  cases Q4m 0 (lo.map (Q1 tm))<;>try rfl
  rename_i l;simp only []
  cases Q4m s (hi.map (Q1 tm))<;>try rfl
  rename_i h
  by_cases h0:es=esz<;>by_cases h1:l≤h<;>by_cases h2:h≤s<;>simp [h0,h1,h2,fin,Qd,Yp]

theorem Q3n (tm:List AV) (hp:List AObj) (k:AV->List AObj->α) (c:COp) (hc:c.isCall=false) :
  X3 E tm hp k c=fin E hp k (Ql E.glob tm hp hp.length c):=by
 cases c with
 | call f args=>cases hc
 | callv f args=>cases hc
 | move x=>simp only [X3,Ql,Q9r,Qi];rfl
 | pick c a b=>
  simp only [X3,Ql,Qkv,Qi,Wh]
  cases Q1 tm c<;>try rfl
  rename_i v;cases v<;>try rfl
  rename_i b;cases b<;>rfl
 | alloc z=>simp only [X3,Ql,Qgz,Zu,Q2j,Qci,Gb]
 | box x=>
  simp only [X3,Ql,Qok,Qi,Q9g,Q2j,Qky,Qci,Gb]
  cases (Q1 tm x).cells? <;> rfl
 | build z ps=>
  simp only [X3,Ql,Qd2,Zu,Q8o,V0];cases Q1e tm (z.map AV.p) ps<;>rfl
 | buildSlice z len esz ps=>
  simp only [X3,Ql,Q6v,Zu,Q8o,Q2j,Qky,Qci,Gb];cases Q1e tm ((List.replicate len z).flatten.map AV.p) ps<;>rfl
 | load n agg x=>
  simp only [X3,Ql,Qjy,Qi,Ju,U7,Xy,V0]
  cases Vb E.glob hp (Q1 tm x) with
  | none=>rfl
  | some cs=>
   simp only []
   cases Gd n cs with
   | none=>rfl
   | some cs=>simp only [];cases sOf agg cs<;>rfl
 | store n x y=>
  simp only [X3,Ql,Qi0,Qi,Uc,Q9g,Yi,Q4g,Q3y]
  cases Q1 tm x<;>try rfl
  rename_i a off;simp only []
  cases hp[a]? with
  | none=>rfl
  | some o=>
   cases o<;>try rfl
   rename_i cs;simp only []
   cases (Q1 tm y).cells? with
   | none=>rfl
   | some v=>
    simp only []
    by_cases h1:v.length=n<;>by_cases h2:off+n≤cs.length<;>simp [h1,h2,fin,Q39]
 | nilCheck x=>
  simp only [X3,Ql,Qa9,Qi]
  cases Q1 tm x<;>try rfl
  ·rename_i v;cases v<;>try rfl
   rename_i fn a b;cases fn<;>rfl
  rename_i fn a b;cases fn<;>rfl
 | ari op x y=>
  simp only [X3,Ql,Qoq,Qi]
  cases Q1 tm x<;>try rfl
  rename_i v
  cases v<;>try rfl
  ·simp only []
   cases Q1 tm y<;>try rfl
   rename_i v
   cases v<;>try rfl
   simp only [Qqs,Yi];rename_i i x j y;cases Qc2 op i j
   ·rfl
   simp only [Ak,V0];cases Qpa op i x y<;>rfl
  simp only []
  cases Q1 tm y<;>try rfl
  rename_i v
  cases v<;>try rfl
  cases op<;>try rfl
  simp only [Yi];rename_i s t
  by_cases h:s.length+t.length≤4611686018427387904<;>simp [h,fin,Qd,Yp]
 | cmp op x y=>
  simp only [X3,Ql,Qoh,Qi,V0,E.cmp.2,E.scmp.2]
  cases Q1 tm x<;>try rfl
  rename_i v
  cases v<;>try rfl
  ·simp only []
   cases Q1 tm y<;>try rfl
   rename_i v
   cases v<;>try rfl
   rename_i i x j y;simp only [Yi,Qrh];cases i == j<;>rfl
  simp only []
  cases Q1 tm y<;>try rfl
  rename_i v;cases v<;>rfl
 | eqB neg x y=>
  simp only [X3,Ql,Qod,Qi]
  cases Q1 tm x<;>try rfl
  rename_i v
  cases v<;>try rfl
  simp only []
  cases Q1 tm y<;>try rfl
  rename_i v
  cases v<;>try rfl
  cases neg<;>rfl
 | eqP neg x y=>
  simp only [X3,Ql,Qop,Qi]
  cases Q1 tm x<;>try rfl
  ·rename_i v
   cases v<;>try rfl
   simp only []
   cases Q1 tm y<;>try rfl
   rename_i v;cases v<;>rfl
  simp only []
  cases Q1 tm y<;>try rfl
  rename_i v;cases v<;>rfl
 | eqAgg neg kinds x y=>
  simp only [X3,Ql,Qia,Qi,Qm8]
  cases (Q1 tm x).aggs? <;> try rfl
  simp only []
  cases (Q1 tm y).aggs? <;> try rfl
  simp only [Qcb,V0,Wh];rename_i cs ds;cases Z8 kinds cs ds<;>rfl
 | not x=>
  simp only [X3,Ql,Qof,Qi];cases Q1 tm x<;>try rfl
  rename_i v;cases v<;>rfl
 | neg x=>
  simp only [X3,Ql,Qoz,Qi];cases Q1 tm x<;>try rfl
  rename_i v;cases v<;>rfl
 | conv i x=>
  simp only [X3,Ql,Qlr,Qi];cases Q1 tm x<;>try rfl
  rename_i v;cases v<;>rfl
 | bytesOf x=>
  simp only [X3,Ql,Qbi,Qi];cases Q1 tm x<;>try rfl
  rename_i v;cases v<;>try rfl
  simp only [Zu,Q2j,fin,Gb]
 | strOf x=>
  simp only [X3,Ql,Qh9,Qi,Uc]
  cases Q1 tm x<;>try rfl
  ·rename_i v;cases v<;>rfl
  rename_i es a off len;simp only []
  cases hp[a]? with
  | none=>rfl
  | some o=>
   cases o<;>try rfl
   simp only [U8,U7,Qak,V0];rename_i cs
   cases Gd len (cs.drop off) with
   | none=>rfl
   | some cs=>simp only [];cases Qh4 cs<;>rfl
 | makeFunc fn a b=>simp only [X3,Ql,Q9v,Ys];rfl
 | makeMap=>simp only [X3,Ql,Qbl,Q2j,fin,Gb]
 | bad=>rfl
 | sliceZ x=>
  simp only [X3,Ql,Qfh,Qi]
  cases Q1 tm x<;>try rfl
  rename_i v;cases v<;>rfl
 | eqN neg x=>
  simp only [X3,Ql,Qov,Qi]
  cases Q1 tm x<;>try rfl
  ·rename_i v
   cases v<;>try rfl
   ·cases neg<;>rfl
   rename_i es rows;simp only [Yi];cases rows.isEmpty<;>rfl
  rename_i es b off len;simp only [Yi]
  by_cases h:0<len<;>simp [h,fin,Qd,Yp,Nat.blt_eq]
 | extIx x y=>
  simp only [X3,Ql,Qim,Qi]
  cases Q1 tm x<;>try rfl
  rename_i v
  cases v<;>try (cases Q1 tm y<;>rfl)
  cases Q1 tm y<;>try rfl
  rename_i u
  cases u<;>try rfl
  rename_i s i c;simp only [Yi];cases i == IntKind.u8<;>rfl
 | rangeS x=>
  simp only [X3,Ql,Qf0,Qi]
  cases Q1 tm x<;>try rfl
  rename_i v
  cases v<;>try rfl
  simp only [Q2j,fin,Gb]
 | nextS x=>
  simp only [X3,Ql,Qik,Qi,Uc]
  cases Q1 tm x<;>try rfl
  rename_i b o;simp only []
  cases hp[b]? with
  | none=>rfl
  | some ob=>
   cases ob<;>try rfl
   rename_i s pos;simp only [Yi,Q3y,Wh]
   by_cases h0:o=0
   ·subst h0
    by_cases hl:pos<s.length
    ·simp [hl,fin,Q39,Nat.blt_eq]
    simp [hl,fin,Qd,Yp,Nat.blt_eq]
   simp [h0,fin]
 | runeStr x=>
  simp only [X3,Ql,Qbo,Qi]
  cases Q1 tm x<;>try rfl
  rename_i v;cases v<;>rfl
 | extCt x y=>
  simp only [X3,Ql,Qh6,Qi]
  cases Q1 tm x<;>try rfl
  rename_i v
  cases v<;>try (cases Q1 tm y<;>rfl)
  cases Q1 tm y<;>try rfl
  rename_i u
  cases u<;>try rfl
  rename_i s i c;simp only [Yi];cases i == IntKind.u8<;>rfl
 | mkIface t x=>simp only [X3,Ql,Qbj,Qi];rfl
 | asserT t z agg ok x=>
  simp only [X3,Ql,Qfn,Qi,Wh,Yi,Zu,Xy]
  have key:∀ (u:Nat) (v:AV),(if Nat.beq u t=true then if ok=true then k (.tuple [v,.p (.bool true)]) hp else k v hp else if ok=true then (match sOf agg (z.map .p) with
     | some z=>k (.tuple [z,.p (.bool false)]) hp
     | none=>E.fail) else E.fail)=fin E hp k (if u=t then Qd (if ok then .tuple [v,.p (.bool true)] else v) else if ok=true then (sOf agg (z.map .p)).bind fun z=>Qd (.tuple [z,.p (.bool false)]) else none):=by
   intro u v
   by_cases hu:u=t
   ·subst hu;cases ok<;>simp [fin,Qd,Yp]
   have:Nat.beq u t=false:=by rw [← Nf,Nu];exact hu
   simp only [this,hu,Al,Lu];cases ok
   ·rfl
   simp only [Ak,V0];cases sOf agg (z.map .p)<;>rfl
  cases Q1 tm x<;>try rfl
  ·rename_i v
   cases v<;>try rfl
   exact key _ _
  exact key _ _
 | eqI neg x=>
  simp only [X3,Ql,Qoj,Qi]
  cases Q1 tm x<;>try rfl
  rename_i v
  cases v<;>first | rfl | (cases neg<;>rfl)
 | eqF neg x=>
  simp only [X3,Ql,Qow,Qi]
  cases Q1 tm x<;>try rfl
  rename_i v
  cases v<;>first | rfl | (cases neg<;>rfl)
 | del kk m ke=>
  simp only [X3,Ql,Qon,Qi,Uc]
  cases Q1 tm m<;>try rfl
  rename_i r;cases Q1 tm ke
  case p kv=>
   simp only []
   cases h:hp[r]? with
   | none=>rfl
   | some o=>
    cases o<;>try rfl
    rename_i es;simp only [Q0c,Yi]
    cases Jg kk kv with
    | false=>rfl
    | true=>
     simp only [Ak,Ns,Al]
     cases V4 kv 0 es with
     | none=>rfl
     | some r=>cases r<;>simp [Q3y,fin,Q39,Qd,Yp]
  all_goals
   simp only []
   cases h:hp[r]? with
   | none=>rfl
   | some o=>cases o<;>rfl
 | insert kk m ke v=>
  simp only [X3,Ql,Qed,Qi,Uc]
  cases Q1 tm m<;>try rfl
  rename_i r;cases Q1 tm ke
  case p kv=>
   simp only []
   cases h:hp[r]? with
   | none=>rfl
   | some o=>
    cases o<;>try rfl
    rename_i es;simp only [Q0c,Yi]
    cases Jg kk kv with
    | false=>rfl
    | true=>
     simp only [Ak,Ns,Al]
     cases V4 kv 0 es with
     | none=>rfl
     | some r=>cases r<;>simp [Q3y,Vn,fin,Q39]
  all_goals
   simp only []
   cases h:hp[r]? with
   | none=>rfl
   | some o=>cases o<;>rfl
 | lookup kk z agg ok m ke=>
  simp only [X3,Ql,Qek,Qi,Uc];cases Q1 tm m
  case map r=>
   cases Q1 tm ke
   case p kv=>
    simp only []
    cases h:hp[r]? with
    | none=>rfl
    | some o=>
     cases o<;>try rfl
     rename_i es;simp only [Q0c,Yi]
     cases Jg kk kv with
     | false=>rfl
     | true=>
      simp only [Ak,Ns,Al]
      cases V4 kv 0 es with
      | none=>rfl
      | some r=>
       cases r with
       | none=>
        simp only [Zu,Xy,V0];cases sOf agg (z.map AV.p)<;>cases ok<;>rfl
       | some r=>cases ok<;>rfl
   all_goals
    simp only []
    cases h:hp[r]? with
    | none=>rfl
    | some o=>cases o<;>rfl
  case p mv=>
   cases mv<;>try (cases Q1 tm ke<;>rfl)
   rename_i ps
   cases Q1 tm ke<;>try rfl
   rename_i kv;simp only [Yi,Qcx]
   cases Jg kk kv with
   | false=>rfl
   | true=>
    simp only [Ak,Ns,Al]
    cases Qeo kv ps with
    | none=>rfl
    | some r=>
     cases r with
     | none=>
      simp only [Zu,Xy,V0];cases sOf agg (z.map AV.p)<;>cases ok<;>rfl
     | some r=>cases ok<;>rfl
  all_goals (cases Q1 tm ke<;>rfl)
 | makeSlice z bytes l c=>
  simp only [X3,Ql,Q83,Qi]
  cases Q1 tm l<;>try rfl
  rename_i v;cases v<;>try rfl
  simp only []
  cases Q1 tm c<;>try rfl
  rename_i v;cases v<;>try rfl
  simp only [Yi,Zu,Q2j];rename_i l _ c
  by_cases h1:0≤l<;>by_cases h2:l≤c<;>by_cases h3:c * bytes≤1099511627776<;>simp [h1,h2,h3,fin,Gb]
 | sliceStr x lo hi=>
  simp only [X3,Ql,Q9b,Qi,Qd9,Q92,Yi]
  cases Q1 tm x<;>try rfl
  rename_i v;cases v<;>try rfl
  rename_i s;simp only []
  cases Q4m 0 (lo.map (Q1 tm))<;>try rfl
  rename_i l;simp only []
  cases Q4m s.length (hi.map (Q1 tm))<;>try rfl
  rename_i h
  by_cases h1:l≤h<;>by_cases h2:h≤s.length<;>simp [h1,h2,fin,Qd,Yp]
 | slice esz x lo hi=>exact Qbz E tm hp k esz x lo hi
 | slice3 esz x lo hi mx=>
  simp only [X3,Ql,Qel,Qd9,Q92,Yi,Qbz]
  cases Q4m 0 (hi.map (Q1 tm))<;>try rfl
  rename_i h;simp only []
  cases Q4m 0 (mx.map (Q1 tm))<;>try rfl
  rename_i m
  by_cases h0:h=m<;>simp [h0,fin]
 | sliceArr n esz x lo hi=>
  simp only [X3,Ql,Q9n,Qi,Qd9,Q92,Yi,Uc]
  cases Q1 tm x<;>try rfl
  rename_i a off;simp only []
  cases hp[a]? with
  | none=>rfl
  | some o=>
   cases o<;>try rfl
   rename_i cs;simp only []
   cases Q4m 0 (lo.map (Q1 tm))<;>try rfl
   rename_i l;simp only []
   cases Q4m n (hi.map (Q1 tm))<;>try rfl
   rename_i h
   by_cases h0:off+n * esz≤cs.length<;>by_cases h1:l≤h<;>by_cases h2:h≤n<;>simp [h0,h1,h2,fin,Qd,Yp]
 | fieldAddr x off=>simp only [X3,Ql,Q88,Qi,U8];cases Q1 tm x<;>rfl
 | field x off n agg=>
  simp only [X3,Ql,Qi3,Qi,Qm8]
  cases (Q1 tm x).aggs? <;> try rfl
  simp only [U8,U7,Xy,V0];rename_i cs
  cases Gd n (cs.drop off) with
  | none=>rfl
  | some cs=>simp only [];cases sOf agg cs<;>rfl
 | indexAddr esz x i=>
  simp only [X3,Ql,Q8c,Qi,Yi,Qmf]
  cases Q1 tm x<;>try rfl
  ·rename_i v;cases v<;>try rfl
   simp only []
   cases Q1 tm i<;>try rfl
   rename_i v;cases v<;>try rfl
   rename_i es rows _ n
   by_cases h0:es=esz<;>cases hi:idx rows n<;>simp [h0,hi,fin,Qd,Yp]
  simp only []
  cases Q1 tm i<;>try rfl
  rename_i v;cases v<;>try rfl
  rename_i es a off len _ n
  by_cases h1:0≤n<;>by_cases h2:n<len<;>simp [h1,h2,fin,Qd,Yp]
 | indexArr len esz x i=>
  simp only [X3,Ql,Qay,Qi,Yi]
  cases Q1 tm x<;>try rfl
  all_goals
   simp only []
   cases Q1 tm i<;>try rfl
   rename_i v;cases v<;>try rfl
   rename_i n
   by_cases h1:0≤n<;>by_cases h2:n<len<;>simp [h1,h2,fin,Qd,Yp]
 | indexStr x i=>
  simp only [X3,Ql,Qao,Qi,Qmf]
  cases Q1 tm x<;>try rfl
  rename_i v;cases v<;>try rfl
  simp only []
  cases Q1 tm i<;>try rfl
  rename_i v;cases v<;>try rfl
  simp only [V0];rename_i s _ n;cases idx s n<;>rfl
 | extract x i=>
  simp only [X3,Ql,Q4o,Qi]
  cases Q1 tm x<;>try rfl
  ·rename_i v;cases v<;>try rfl
   rename_i vs;simp only [V0];cases vs[i]? <;> rfl
  rename_i vs;simp only [V0];cases vs[i]? <;> rfl
 | lenStr x=>
  simp only [X3,Ql,Qe3,Qi]
  cases Q1 tm x<;>try rfl
  rename_i v;cases v<;>rfl
 | lenSl x=>
  simp only [X3,Ql,Qht,Qi]
  cases Q1 tm x<;>try rfl
  rename_i v;cases v<;>rfl
 | lenMap x=>
  simp only [X3,Ql,Qfg,Qi,Uc]
  cases Q1 tm x<;>try rfl
  ·rename_i v;cases v<;>rfl
  rename_i r;simp only []
  cases hp[r]? with
  | none=>rfl
  | some o=>cases o<;>rfl
 | append esz bytes s x=>simp only [X3,Ql];exact Q7x ..
 | appendT esz bytes s x=>
  simp only [X3,Ql,Qca,Qi,Q7x,Qgg]
  cases hs:Q1 tm s<;>try rfl
  rename_i es a off len;simp only [Uc,Yi,Q67,Q3y]
  cases hp[a]? with
  | none=>rfl
  | some o=>
   cases o<;>try rfl
   rename_i cs;simp only []
   by_cases h0:off+len * esz≤cs.length
   ·have h1:Nat.ble (off+len * esz) cs.length=true:=by simpa using h0
    rw [h1,Af h0,Af rfl];rw [Mn]
    cases hq:Qb2 (hp.set a (.cells (cs.take (off+len * esz)))) hp.length esz bytes (.slice es a off len) (Q1 tm x) with
    | none=>rfl
    | some q=>
     obtain ⟨v,e⟩:=q;show k v (e.apply (hp.set a (.cells (cs.take (off+len * esz)))) (hp.set a (.cells (cs.take (off+len * esz)))).length)=k v ((e.pre a (.cells (cs.take (off+len * esz)))).apply hp hp.length);rw [Qf4 (Qg3 hq),Mn]
   have h1:Nat.ble (off+len * esz) cs.length=false:=by rw [← Nf,Cm];exact h0
   rw [h1,Ae h0];rfl
 | copyB d s=>
  have hc:∀ new,(match Q1 tm d with
    | .p .nilSlice=>k (.p (.int .i64 0)) hp
    | .slice es a off len=>Qeu E hp a fun
     | .cells cs=>chk E (Nat.beq es 1&&(Nat.ble (off+len) cs.length&&Nat.ble 1 len))
      (Qgp len new cs off fun n cs=>Qjw hp a (.cells cs) fun hp=>k (.p (.int .i64 n)) hp)
     | _=>E.fail
    | _=>E.fail)=fin E hp k (Qg9 hp (Q1 tm d) new):=fun new=>by
   simp only [Uc,Yi,Qgp,Q67,Qcp,Q4g,Q3y,Qg9]
   cases Q1 tm d<;>try rfl
   ·rename_i v;cases v<;>rfl
   rename_i es a off len;simp only []
   cases hp[a]? with
   | none=>rfl
   | some o=>
    cases o<;>try rfl
    rename_i cs;simp only []
    by_cases h1:es=1<;>by_cases h2:off+len≤cs.length<;>by_cases h3:1≤len<;>simp [h1,h2,h3,fin,Q39]<;>omega
  simp only [X3,Ql,Qhb,Qi,Qq8]
  cases Qkp hp (Q1 tm s) with
  | none=>rfl
  | some new=>exact hc new
 | max x y=>
  simp only [X3,Ql,Qoo,Qi,Wh]
  cases Q1 tm x<;>try rfl
  rename_i v;cases v<;>try rfl
  simp only []
  cases Q1 tm y<;>try rfl
  rename_i v;cases v<;>try rfl
  simp [fin,Qd,Yp]
 | min x y=>
  simp only [X3,Ql,Qoi,Qi,Wh]
  cases Q1 tm x<;>try rfl
  rename_i v;cases v<;>try rfl
  simp only []
  cases Q1 tm y<;>try rfl
  rename_i v;cases v<;>try rfl
  simp [fin,Qd,Yp]
end
end
end Go.Av
