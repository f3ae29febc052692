/- Part of the proof of CrossRound: for every input the law returns true; no condition. -/
import Derived.Test.YtaokaobiihpkbaaGreatDoorAvStep
set_option linter.all false
namespace Go.Av
noncomputable section
universe u
section
variable {α:Type u} (E:Env α)
def fin (E:Env α) (hp:List AObj) (k:AV→List AObj → α):Option (AV×Eff) → α
 | some (v,e)=>k v (e.apply hp hp.length)
 | none=>E.fail
theorem Qg7 (hp:List AObj) (k:AV→List AObj → α):fin E hp k none=E.fail:=rfl
theorem Qf6 (hp:List AObj) (k:AV→List AObj → α) (v:AV) (e:Eff):fin E hp k (some (v,e))=k v (e.apply hp hp.length):=rfl
theorem Jb {β:Type} (hp:List AObj) (k:AV→List AObj → α) (o:Option β) (f : β→Option (AV×Eff)):fin E hp k (o.bind f)=(match o with
  | some b=>fin E hp k (f b)
  | none=>E.fail):=by cases o<;>rfl
theorem Qnz {β:Type} (hp:List AObj) (k:AV→List AObj → α) (o:Option β) (f : β→AV×Eff):fin E hp k (o.map f)=(match o with
  | some b=>fin E hp k (some (f b))
  | none=>E.fail):=by cases o<;>rfl
theorem Q1d (hp:List AObj) (o:AObj):({ new:=some o }:Eff).apply hp hp.length=hp ++ [o]:=by simp [Eff.apply,plc]
theorem Q60 (hp:List AObj) (n:Nat) (a:Nat) (o:AObj):({ set:=some (a,o) }:Eff).apply hp n=hp.set a o:=by simp [Eff.apply]
theorem Qmv (hp:List AObj) (a:Nat) (o o':AObj):({ set:=some (a,o),new:=some o' }:Eff).apply hp hp.length=hp.set a o ++ [o']:=by simp [Eff.apply,plc]
theorem Wy (hp:List AObj) (n:Nat):({}:Eff).apply hp n=hp:=rfl

theorem Qvh (hp:List AObj) (esz bytes:Nat) (s:AV) (new:List AV) (n:Nat) (k:AV→List AObj → α) :
  Qso E hp esz bytes s new n k=fin E hp k (Qec hp hp.length esz bytes s new n):=by
 unfold Qso Qec
 by_cases hn:n=0
 ·subst hn;simp only [ifB,if_true]
  cases s with
  | p v=>cases v<;>rfl
  | _=>rfl
 ·have:Nat.beq n 0=false:=by cases n<;>first | rfl | simp_all
  simp only [this,ifB,hn,if_false]
  cases s with
  | p v=>
   cases v<;>(try rfl) <;>
   (by_cases h3:(n+4096) * bytes≤17592186044416<;>simp [Wr,Q4i,h3,fin,Q1d])
  | slice es a off len=>
   simp only [Gj]
   cases h:hp[a]? with
   | none=>rfl
   | some o=>
    cases o<;>simp only [Wr,Q18,Gi,Q67,Q4i,fin]<;>(try rfl)
    by_cases h1:es=esz<;>rename_i cs<;>by_cases h2:off+len * esz=cs.length<;>by_cases h3:(len+n+4096) * bytes≤17592186044416<;>simp [h1,h2,h3,Qmv,List.length_set]
  | _=>rfl

theorem Qut (hp:List AObj) (K:List AV → α) (v:AV):Qzs E hp K v=(match Qo8 hp v with
  | some new=>K new
  | none=>E.fail):=by
 unfold Qzs Qo8
 cases v<;>try rfl
 ·rename_i p;cases p<;>try rfl
  ·simp [Wm]
  rename_i es rows;simp only [Wr,Wm]
  by_cases h0:es=1
  ·simp [h0]
  have:Nat.beq es 1=false:=by rw [← Nu,Bk];exact h0
  simp [h0,this]
 rename_i es b off n;simp only [Gj,Q18,Wr,Q20]
 cases hp[b]? with
 | none=>rfl
 | some o=>
  cases o<;>try rfl
  rename_i cs
  by_cases h0:es=1
  ·simp only [h0,if_true,Db];cases Q1s n (cs.drop off)<;>rfl
  have:Nat.beq es 1=false:=by rw [← Nu,Bk];exact h0
  simp [h0,this]
theorem Qa3 (tm:List AV) (hp:List AObj) (k:AV→List AObj → α) (esz bytes:Nat) (s x:Opd):Q5x E tm hp k esz bytes s x=fin E hp k (Qd9 hp hp.length esz bytes (Q4 tm s) (Q4 tm x)):=by
 simp only [Qd9,Q5x,Z0,Gj,Wr,Qvh,Wm,Q18,Q20]
 cases Q4 tm x<;>try rfl
 ·rename_i v;cases v<;>try rfl
  ·rename_i b
   by_cases h0:esz=1
   ·simp [h0]
   have:Nat.beq esz 1=false:=by rw [← Nu,Bk];exact h0
   simp [h0,this,Qg7]
  rename_i es rows
  by_cases h0:es=esz
  ·simp [h0]
  have:Nat.beq es esz=false:=by rw [← Nu,Bk];exact h0
  simp [h0,this,Qg7]
 rename_i es b off n;simp only []
 cases hp[b]? with
 | none=>rfl
 | some o=>
  cases o<;>try rfl
  rename_i cs
  by_cases h0:es=esz
  ·simp only [h0,if_true,Jb,Db];cases Q1s (n * esz) (cs.drop off)<;>rfl
  have:Nat.beq es esz=false:=by rw [← Nu,Bk];exact h0
  simp [h0,this,Qg7]
theorem Qee (tm:List AV) (hp:List AObj) (k:AV→List AObj → α) (esz:Nat) (x:Opd) (lo hi:Option Opd):Qay E tm hp k esz x lo hi=fin E hp k (Qlx esz (Q4 tm x) (lo.map (Q4 tm)) (hi.map (Q4 tm))):=by
 simp only [Qlx,Qay,Z0,Qfo,Qaz,Wr]
 cases Q4 tm x<;>try rfl
 ·rename_i v;cases v<;>try rfl
  rename_i es s;simp only []
  cases Q6f 0 (lo.map (Q4 tm))<;>try rfl
  rename_i l;simp only []
  cases Q6f s.length (hi.map (Q4 tm))<;>try rfl
  rename_i h
  by_cases h0:es=esz<;>by_cases h1:l≤h<;>by_cases h2:h≤s.length<;>simp [h0,h1,h2,fin,Qj,Wy]
 ·rename_i es a off s;simp only []
  cases Q6f 0 (lo.map (Q4 tm))<;>try rfl
  rename_i l;simp only []
  cases Q6f s (hi.map (Q4 tm))<;>try rfl
  rename_i h
  by_cases h0:es=esz<;>by_cases h1:l≤h<;>by_cases h2:h≤s<;>simp [h0,h1,h2,fin,Qj,Wy]

theorem Qbs (tm:List AV) (hp:List AObj) (k:AV→List AObj → α) (c:COp) (hc:c.isCall=false) :
  Ub E tm hp k c=fin E hp k (Z5 E.glob tm hp hp.length c):=by
 cases c with
 | call f args=>cases hc
 | callv f args=>cases hc
 | move x=>simp only [Ub,Z5,Qfp,Z0];rfl
 | pick c a b=>
  simp only [Ub,Z5,Qnq,Z0,Gx]
  cases Q4 tm c<;>try rfl
  rename_i v;cases v<;>try rfl
  rename_i b;cases b<;>rfl
 | alloc z=>simp only [Ub,Z5,Ql4,Wm,Q4i,Qf6,Q1d]
 | box x=>
  simp only [Ub,Z5,Qt8,Z0,Qd3,Q4i,Qnz,Qf6,Q1d]
  cases (Q4 tm x).cells? <;> rfl
 | build z ps=>
  simp only [Ub,Z5,Qlf,Wm,Qfr,Jb];cases Q4m tm (z.map AV.p) ps<;>rfl
 | buildSlice z len esz ps=>
  simp only [Ub,Z5,Q8g,Wm,Qfr,Q4i,Qnz,Qf6,Q1d];cases Q4m tm ((List.replicate len z).flatten.map AV.p) ps<;>rfl
 | load n agg x=>
  simp only [Ub,Z5,Qpw,Z0,Q7d,Q20,Gh,Jb]
  cases G5 E.glob hp (Q4 tm x) with
  | none=>rfl
  | some cs=>
   simp only []
   cases Q1s n cs with
   | none=>rfl
   | some cs=>simp only [];cases sOf agg cs<;>rfl
 | store n x y=>
  simp only [Ub,Z5,Qkg,Z0,Gj,Qd3,Wr,Q6a,Q67]
  cases Q4 tm x<;>try rfl
  rename_i a off;simp only []
  cases hp[a]? with
  | none=>rfl
  | some o=>
   cases o<;>try rfl
   rename_i cs;simp only []
   cases (Q4 tm y).cells? with
   | none=>rfl
   | some v=>
    simp only []
    by_cases h1:v.length=n<;>by_cases h2:off+n≤cs.length<;>simp [h1,h2,fin,Q60]
 | nilCheck x=>
  simp only [Ub,Z5,Qbq,Z0]
  cases Q4 tm x<;>try rfl
  ·rename_i v;cases v<;>try rfl
   rename_i fn a b;cases fn<;>rfl
  rename_i fn a b;cases fn<;>rfl
 | ari op x y=>
  simp only [Ub,Z5,Qt0,Z0]
  cases Q4 tm x<;>try rfl
  rename_i v
  cases v<;>try rfl
  ·simp only []
   cases Q4 tm y<;>try rfl
   rename_i v
   cases v<;>try rfl
   simp only [Qvl,Wr];rename_i i x j y;cases Qet op i j
   ·rfl
   simp only [if_true,Jb];cases Qu6 op i x y<;>rfl
  simp only []
  cases Q4 tm y<;>try rfl
  rename_i v
  cases v<;>try rfl
  cases op<;>try rfl
  simp only [Wr];rename_i s t
  by_cases h:s.length+t.length≤4611686018427387904<;>simp [h,fin,Qj,Wy]
 | cmp op x y=>
  simp only [Ub,Z5,Qtc,Z0,Jb,E.cmp.2,E.scmp.2]
  cases Q4 tm x<;>try rfl
  rename_i v
  cases v<;>try rfl
  ·simp only []
   cases Q4 tm y<;>try rfl
   rename_i v
   cases v<;>try rfl
   rename_i i x j y;simp only [Wr,Qx4];cases i == j<;>rfl
  simp only []
  cases Q4 tm y<;>try rfl
  rename_i v;cases v<;>rfl
 | eqB neg x y=>
  simp only [Ub,Z5,Qsx,Z0]
  cases Q4 tm x<;>try rfl
  rename_i v
  cases v<;>try rfl
  simp only []
  cases Q4 tm y<;>try rfl
  rename_i v
  cases v<;>try rfl
  cases neg<;>rfl
 | eqP neg x y=>
  simp only [Ub,Z5,Qss,Z0]
  cases Q4 tm x<;>try rfl
  ·rename_i v
   cases v<;>try rfl
   simp only []
   cases Q4 tm y<;>try rfl
   rename_i v;cases v<;>rfl
  simp only []
  cases Q4 tm y<;>try rfl
  rename_i v;cases v<;>rfl
 | eqAgg neg kinds x y=>
  simp only [Ub,Z5,Qkb,Z0,Qpj]
  cases (Q4 tm x).aggs? <;> try rfl
  simp only []
  cases (Q4 tm y).aggs? <;> try rfl
  simp only [Qed,Jb,Gx];rename_i cs ds;cases Yt kinds cs ds<;>rfl
 | not x=>
  simp only [Ub,Z5,Qth,Z0];cases Q4 tm x<;>try rfl
  rename_i v;cases v<;>rfl
 | neg x=>
  simp only [Ub,Z5,Qsy,Z0];cases Q4 tm x<;>try rfl
  rename_i v;cases v<;>rfl
 | conv i x=>
  simp only [Ub,Z5,Qpc,Z0];cases Q4 tm x<;>try rfl
  rename_i v;cases v<;>rfl
 | bytesOf x=>
  simp only [Ub,Z5,Qei,Z0];cases Q4 tm x<;>try rfl
  rename_i v;cases v<;>try rfl
  simp only [Wm,Q4i,fin,Q1d]
 | strOf x=>
  simp only [Ub,Z5,Qli,Z0,Gj]
  cases Q4 tm x<;>try rfl
  ·rename_i v;cases v<;>rfl
  rename_i es a off len;simp only []
  cases hp[a]? with
  | none=>rfl
  | some o=>
   cases o<;>try rfl
   simp only [Q18,Q20,Qby,Jb];rename_i cs
   cases Q1s len (cs.drop off) with
   | none=>rfl
   | some cs=>simp only [];cases Qlv cs<;>rfl
 | makeFunc fn a b=>simp only [Ub,Z5,Qcg,Jy];rfl
 | makeMap=>simp only [Ub,Z5,Qe5,Q4i,fin,Q1d]
 | bad=>rfl
 | sliceZ x=>
  simp only [Ub,Z5,Qgv,Z0]
  cases Q4 tm x<;>try rfl
  rename_i v;cases v<;>rfl
 | eqN neg x=>
  simp only [Ub,Z5,Qt7,Z0]
  cases Q4 tm x<;>try rfl
  ·rename_i v
   cases v<;>try rfl
   ·cases neg<;>rfl
   rename_i es rows;simp only [Wr];cases rows.isEmpty<;>rfl
  rename_i es b off len;simp only [Wr]
  by_cases h:0<len<;>simp [h,fin,Qj,Wy,Nat.blt_eq]
 | extIx x y=>
  simp only [Ub,Z5,Qlo,Z0]
  cases Q4 tm x<;>try rfl
  rename_i v
  cases v<;>try (cases Q4 tm y<;>rfl)
  cases Q4 tm y<;>try rfl
  rename_i u
  cases u<;>try rfl
  rename_i s i c;simp only [Wr];cases i == IntKind.u8<;>rfl
 | rangeS x=>
  simp only [Ub,Z5,Qi1,Z0]
  cases Q4 tm x<;>try rfl
  rename_i v
  cases v<;>try rfl
  simp only [Q4i,fin,Q1d]
 | nextS x=>
  simp only [Ub,Z5,Qkk,Z0,Gj]
  cases Q4 tm x<;>try rfl
  rename_i b o;simp only []
  cases hp[b]? with
  | none=>rfl
  | some ob=>
   cases ob<;>try rfl
   rename_i s pos;simp only [Wr,Q67,Gx]
   by_cases h0:o=0
   ·subst h0
    by_cases hl:pos<s.length
    ·simp [hl,fin,Q60,Nat.blt_eq]
    simp [hl,fin,Qj,Wy,Nat.blt_eq]
   simp [h0,fin]
 | runeStr x=>
  simp only [Ub,Z5,Qek,Z0]
  cases Q4 tm x<;>try rfl
  rename_i v;cases v<;>rfl
 | extCt x y=>
  simp only [Ub,Z5,Ql1,Z0]
  cases Q4 tm x<;>try rfl
  rename_i v
  cases v<;>try (cases Q4 tm y<;>rfl)
  cases Q4 tm y<;>try rfl
  rename_i u
  cases u<;>try rfl
  rename_i s i c;simp only [Wr];cases i == IntKind.u8<;>rfl
 | mkIface t x=>simp only [Ub,Z5,Qem,Z0];rfl
 | asserT t z agg ok x=>
  simp only [Ub,Z5,Qh7,Z0,Gx,Wr,Wm,Gh]
  have key:∀ (u:Nat) (v:AV),(if Nat.beq u t=true then if ok=true then k (.tuple [v,.p (.bool true)]) hp else k v hp else if ok=true then (match sOf agg (z.map .p) with
     | some z=>k (.tuple [z,.p (.bool false)]) hp
     | none=>E.fail) else E.fail)=fin E hp k (if u=t then Qj (if ok then .tuple [v,.p (.bool true)] else v) else if ok=true then (sOf agg (z.map .p)).bind fun z=>Qj (.tuple [z,.p (.bool false)]) else none):=by
   intro u v
   by_cases hu:u=t
   ·subst hu;cases ok<;>simp [fin,Qj,Wy]
   have:Nat.beq u t=false:=by rw [← Nu,Bk];exact hu
   simp only [this,hu,if_false,Lj];cases ok
   ·rfl
   simp only [if_true,Jb];cases sOf agg (z.map .p)<;>rfl
  cases Q4 tm x<;>try rfl
  ·rename_i v
   cases v<;>try rfl
   exact key _ _
  exact key _ _
 | eqI neg x=>
  simp only [Ub,Z5,Qsq,Z0]
  cases Q4 tm x<;>try rfl
  rename_i v
  cases v<;>first | rfl | (cases neg<;>rfl)
 | eqF neg x=>
  simp only [Ub,Z5,Qt4,Z0]
  cases Q4 tm x<;>try rfl
  rename_i v
  cases v<;>first | rfl | (cases neg<;>rfl)
 | del kk m ke=>
  simp only [Ub,Z5,Qtg,Z0,Gj]
  cases Q4 tm m<;>try rfl
  rename_i r;cases Q4 tm ke
  case p kv=>
   simp only []
   cases h:hp[r]? with
   | none=>rfl
   | some o=>
    cases o<;>try rfl
    rename_i es;simp only [Q28,Wr]
    cases Q0r kk kv with
    | false=>rfl
    | true=>
     simp only [if_true,Nw,if_false]
     cases Jc kv 0 es with
     | none=>rfl
     | some r=>cases r<;>simp [Q67,fin,Q60,Qj,Wy]
  all_goals
   simp only []
   cases h:hp[r]? with
   | none=>rfl
   | some o=>cases o<;>rfl
 | insert kk m ke v=>
  simp only [Ub,Z5,Qif,Z0,Gj]
  cases Q4 tm m<;>try rfl
  rename_i r;cases Q4 tm ke
  case p kv=>
   simp only []
   cases h:hp[r]? with
   | none=>rfl
   | some o=>
    cases o<;>try rfl
    rename_i es;simp only [Q28,Wr]
    cases Q0r kk kv with
    | false=>rfl
    | true=>
     simp only [if_true,Nw,if_false]
     cases Jc kv 0 es with
     | none=>rfl
     | some r=>cases r<;>simp [Q67,Gi,fin,Q60]
  all_goals
   simp only []
   cases h:hp[r]? with
   | none=>rfl
   | some o=>cases o<;>rfl
 | lookup kk z agg ok m ke=>
  simp only [Ub,Z5,Qia,Z0,Gj];cases Q4 tm m
  case map r=>
   cases Q4 tm ke
   case p kv=>
    simp only []
    cases h:hp[r]? with
    | none=>rfl
    | some o=>
     cases o<;>try rfl
     rename_i es;simp only [Q28,Wr]
     cases Q0r kk kv with
     | false=>rfl
     | true=>
      simp only [if_true,Nw,if_false]
      cases Jc kv 0 es with
      | none=>rfl
      | some r=>
       cases r with
       | none=>
        simp only [Wm,Gh,Jb];cases sOf agg (z.map AV.p)<;>cases ok<;>rfl
       | some r=>cases ok<;>rfl
   all_goals
    simp only []
    cases h:hp[r]? with
    | none=>rfl
    | some o=>cases o<;>rfl
  case p mv=>
   cases mv<;>try (cases Q4 tm ke<;>rfl)
   rename_i ps
   cases Q4 tm ke<;>try rfl
   rename_i kv;simp only [Wr,Qfm]
   cases Q0r kk kv with
   | false=>rfl
   | true=>
    simp only [if_true,Nw,if_false]
    cases Qhf kv ps with
    | none=>rfl
    | some r=>
     cases r with
     | none=>
      simp only [Wm,Gh,Jb];cases sOf agg (z.map AV.p)<;>cases ok<;>rfl
     | some r=>cases ok<;>rfl
  all_goals (cases Q4 tm ke<;>rfl)
 | makeSlice z bytes l c=>
  simp only [Ub,Z5,Qa6,Z0]
  cases Q4 tm l<;>try rfl
  rename_i v;cases v<;>try rfl
  simp only []
  cases Q4 tm c<;>try rfl
  rename_i v;cases v<;>try rfl
  simp only [Wr,Wm,Q4i];rename_i l _ c
  by_cases h1:0≤l<;>by_cases h2:l≤c<;>by_cases h3:c * bytes≤1099511627776<;>simp [h1,h2,h3,fin,Q1d]
 | sliceStr x lo hi=>
  simp only [Ub,Z5,Qch,Z0,Qfo,Qaz,Wr]
  cases Q4 tm x<;>try rfl
  rename_i v;cases v<;>try rfl
  rename_i s;simp only []
  cases Q6f 0 (lo.map (Q4 tm))<;>try rfl
  rename_i l;simp only []
  cases Q6f s.length (hi.map (Q4 tm))<;>try rfl
  rename_i h
  by_cases h1:l≤h<;>by_cases h2:h≤s.length<;>simp [h1,h2,fin,Qj,Wy]
 | slice esz x lo hi=>exact Qee E tm hp k esz x lo hi
 | slice3 esz x lo hi mx=>
  simp only [Ub,Z5,Qh1,Qfo,Qaz,Wr,Qee]
  cases Q6f 0 (hi.map (Q4 tm))<;>try rfl
  rename_i h;simp only []
  cases Q6f 0 (mx.map (Q4 tm))<;>try rfl
  rename_i m
  by_cases h0:h=m<;>simp [h0,fin]
 | sliceArr n esz x lo hi=>
  simp only [Ub,Z5,Qbe,Z0,Qfo,Qaz,Wr,Gj]
  cases Q4 tm x<;>try rfl
  rename_i a off;simp only []
  cases hp[a]? with
  | none=>rfl
  | some o=>
   cases o<;>try rfl
   rename_i cs;simp only []
   cases Q6f 0 (lo.map (Q4 tm))<;>try rfl
   rename_i l;simp only []
   cases Q6f n (hi.map (Q4 tm))<;>try rfl
   rename_i h
   by_cases h0:off+n * esz≤cs.length<;>by_cases h1:l≤h<;>by_cases h2:h≤n<;>simp [h0,h1,h2,fin,Qj,Wy]
 | fieldAddr x off=>simp only [Ub,Z5,Q9m,Z0,Q18];cases Q4 tm x<;>rfl
 | field x off n agg=>
  simp only [Ub,Z5,Qka,Z0,Qpj]
  cases (Q4 tm x).aggs? <;> try rfl
  simp only [Q18,Q20,Gh,Jb];rename_i cs
  cases Q1s n (cs.drop off) with
  | none=>rfl
  | some cs=>simp only [];cases sOf agg cs<;>rfl
 | indexAddr esz x i=>
  simp only [Ub,Z5,Q9s,Z0,Wr,Qqg]
  cases Q4 tm x<;>try rfl
  ·rename_i v;cases v<;>try rfl
   simp only []
   cases Q4 tm i<;>try rfl
   rename_i v;cases v<;>try rfl
   rename_i es rows _ n
   by_cases h0:es=esz<;>cases hi:idx rows n<;>simp [h0,hi,fin,Qj,Wy]
  simp only []
  cases Q4 tm i<;>try rfl
  rename_i v;cases v<;>try rfl
  rename_i es a off len _ n
  by_cases h1:0≤n<;>by_cases h2:n<len<;>simp [h1,h2,fin,Qj,Wy]
 | indexArr len esz x i=>
  simp only [Ub,Z5,Qbd,Z0,Wr]
  cases Q4 tm x<;>try rfl
  all_goals
   simp only []
   cases Q4 tm i<;>try rfl
   rename_i v;cases v<;>try rfl
   rename_i n
   by_cases h1:0≤n<;>by_cases h2:n<len<;>simp [h1,h2,fin,Qj,Wy]
 | indexStr x i=>
  simp only [Ub,Z5,Qc7,Z0,Qqg]
  cases Q4 tm x<;>try rfl
  rename_i v;cases v<;>try rfl
  simp only []
  cases Q4 tm i<;>try rfl
  rename_i v;cases v<;>try rfl
  simp only [Jb];rename_i s _ n;cases idx s n<;>rfl
 | extract x i=>
  simp only [Ub,Z5,Q6h,Z0]
  cases Q4 tm x<;>try rfl
  ·rename_i v;cases v<;>try rfl
   rename_i vs;simp only [Jb];cases vs[i]? <;> rfl
  rename_i vs;simp only [Jb];cases vs[i]? <;> rfl
 | lenStr x=>
  simp only [Ub,Z5,Qh3,Z0]
  cases Q4 tm x<;>try rfl
  rename_i v;cases v<;>rfl
 | lenSl x=>
  simp only [Ub,Z5,Ql9,Z0]
  cases Q4 tm x<;>try rfl
  rename_i v;cases v<;>rfl
 | lenMap x=>
  simp only [Ub,Z5,Qhn,Z0,Gj]
  cases Q4 tm x<;>try rfl
  ·rename_i v;cases v<;>rfl
  rename_i r;simp only []
  cases hp[r]? with
  | none=>rfl
  | some o=>cases o<;>rfl
 | append esz bytes s x=>simp only [Ub,Z5];exact Qa3 ..
 | appendT esz bytes s x=>
  simp only [Ub,Z5,Qeb,Z0,Qa3,Qis]
  cases hs:Q4 tm s<;>try rfl
  rename_i es a off len;simp only [Gj,Wr,Q8x,Q67]
  cases hp[a]? with
  | none=>rfl
  | some o=>
   cases o<;>try rfl
   rename_i cs;simp only []
   by_cases h0:off+len * esz≤cs.length
   ·have h1:Nat.ble (off+len * esz) cs.length=true:=by simpa using h0
    rw [h1,if_pos h0,if_pos rfl];rw [Nb]
    cases hq:Qd9 (hp.set a (.cells (cs.take (off+len * esz)))) hp.length esz bytes (.slice es a off len) (Q4 tm x) with
    | none=>rfl
    | some q=>
     obtain ⟨v,e⟩:=q;show k v (e.apply (hp.set a (.cells (cs.take (off+len * esz)))) (hp.set a (.cells (cs.take (off+len * esz)))).length)=k v ((e.pre a (.cells (cs.take (off+len * esz)))).apply hp hp.length);rw [Qhb (Qir hq),Nb]
   have h1:Nat.ble (off+len * esz) cs.length=false:=by rw [← Nu,Lx];exact h0
   rw [h1,if_neg h0];rfl
 | copyB d s=>
  have hc:∀ new,(match Q4 tm d with
    | .p .nilSlice=>k (.p (.int .i64 0)) hp
    | .slice es a off len=>Qhy E hp a fun
     | .cells cs=>chk E (Nat.beq es 1&&(Nat.ble (off+len) cs.length&&Nat.ble 1 len))
      (Qgy len new cs off fun n cs=>Qnh hp a (.cells cs) fun hp=>k (.p (.int .i64 n)) hp)
     | _=>E.fail
    | _=>E.fail)=fin E hp k (Qiz hp (Q4 tm d) new):=fun new=>by
   simp only [Gj,Wr,Qgy,Q8x,Qf0,Q6a,Q67,Qiz]
   cases Q4 tm d<;>try rfl
   ·rename_i v;cases v<;>rfl
   rename_i es a off len;simp only []
   cases hp[a]? with
   | none=>rfl
   | some o=>
    cases o<;>try rfl
    rename_i cs;simp only []
    by_cases h1:es=1<;>by_cases h2:off+len≤cs.length<;>by_cases h3:1≤len<;>simp [h1,h2,h3,fin,Q60]<;>omega
  simp only [Ub,Z5,Qm0,Z0,Qut]
  cases Qo8 hp (Q4 tm s) with
  | none=>rfl
  | some new=>exact hc new
 | max x y=>
  simp only [Ub,Z5,Qsu,Z0,Gx]
  cases Q4 tm x<;>try rfl
  rename_i v;cases v<;>try rfl
  simp only []
  cases Q4 tm y<;>try rfl
  rename_i v;cases v<;>try rfl
  simp [fin,Qj,Wy]
 | min x y=>
  simp only [Ub,Z5,Qtf,Z0,Gx]
  cases Q4 tm x<;>try rfl
  rename_i v;cases v<;>try rfl
  simp only []
  cases Q4 tm y<;>try rfl
  rename_i v;cases v<;>try rfl
  simp [fin,Qj,Wy]
end
end
end Go.Av
