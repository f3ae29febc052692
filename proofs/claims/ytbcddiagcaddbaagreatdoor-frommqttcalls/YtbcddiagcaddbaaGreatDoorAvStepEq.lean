/- Part of FrommqttCalls: the law returns true; no condition. -/
import Derived.Test.YtbcddiagcaddbaaGreatDoorAvStep
set_option linter.all false
namespace Go.Av
noncomputable section
universe u
section
variable {α:Type u} (E:Env α)
def fin (E:Env α) (hp:List AObj) (k:AV->List AObj->α):Option (AV×Eff)->α
 | some (v,e)=>k v (e.apply hp hp.length)
 | none=>E.fail
theorem Qni (hp:List AObj) (k:AV->List AObj->α):fin E hp k none=E.fail:=rfl
theorem Qm4 (hp:List AObj) (k:AV->List AObj->α) (v:AV) (e:Eff):fin E hp k (some (v,e))=k v (e.apply hp hp.length):=rfl
theorem Q2z {β:Type} (hp:List AObj) (k:AV->List AObj->α) (o:Option β) (f : β->Option (AV×Eff)):fin E hp k (o.bind f)=(match o with
  | some b=>fin E hp k (f b)
  | none=>E.fail):=by cases o<;>rfl
theorem Qw8 {β:Type} (hp:List AObj) (k:AV->List AObj->α) (o:Option β) (f : β->AV×Eff):fin E hp k (o.map f)=(match o with
  | some b=>fin E hp k (some (f b))
  | none=>E.fail):=by cases o<;>rfl
theorem Q6w (hp:List AObj) (o:AObj):({ new:=some o }:Eff).apply hp hp.length=hp ++ [o]:=by simp [Eff.apply,plc]
theorem Qc2 (hp:List AObj) (n:Nat) (a:Nat) (o:AObj):({ set:=some (a,o) }:Eff).apply hp n=hp.set a o:=by simp [Eff.apply]
theorem Qto (hp:List AObj) (a:Nat) (o o':AObj):({ set:=some (a,o),new:=some o' }:Eff).apply hp hp.length=hp.set a o ++ [o']:=by simp [Eff.apply,plc]
theorem G8 (hp:List AObj) (n:Nat):({}:Eff).apply hp n=hp:=rfl

theorem Z2m (hp:List AObj) (esz bytes:Nat) (s:AV) (new:List AV) (n:Nat) (k:AV->List AObj->α) :
  Z0t E hp esz bytes s new n k=fin E hp k (Qla hp hp.length esz bytes s new n):=by
 unfold Z0t Qla
 by_cases hn:n=0
 ·subst hn;simp only [ifB,Ak]
  cases s with
  | p v=>cases v<;>rfl
  | _=>rfl
 ·have:Nat.beq n 0=false:=by cases n<;>first | rfl | simp_all
  simp only [this,ifB,hn,Al]
  cases s with
  | p v=>
   cases v<;>(try rfl) <;>
   (by_cases h3:(n+4096) * bytes≤17592186044416<;>simp [Jp,Qab,h3,fin,Q6w])
  | slice es a off len=>
   simp only [Q4b]
   cases h:hp[a]? with
   | none=>rfl
   | some o=>
    cases o<;>simp only [Jp,Q47,Q5i,Qby,Qab,fin]<;>(try rfl)
    by_cases h1:es=esz<;>rename_i cs<;>by_cases h2:off+len * esz=cs.length<;>by_cases h3:(len+n+4096) * bytes≤17592186044416<;>simp [h1,h2,h3,Qto,List.length_set]
  | _=>rfl

theorem Z3v (hp:List AObj) (K:List AV->α) (v:AV):Z90 E hp K v=(match Qvd hp v with
  | some new=>K new
  | none=>E.fail):=by
 unfold Z90 Qvd
 cases v<;>try rfl
 ·rename_i p;cases p<;>try rfl
  ·simp [J8]
  rename_i es rows;simp only [Jp,J8]
  by_cases h0:es=1
  ·simp [h0]
  have:Nat.beq es 1=false:=by rw [← Nu,Bv];exact h0
  simp [h0,this]
 rename_i es b off n;simp only [Q4b,Q47,Jp,Q7a]
 cases hp[b]? with
 | none=>rfl
 | some o=>
  cases o<;>try rfl
  rename_i cs
  by_cases h0:es=1
  ·simp only [h0,Ak,De];cases Q74 n (cs.drop off)<;>rfl
  have:Nat.beq es 1=false:=by rw [← Nu,Bv];exact h0
  simp [h0,this]
theorem Qh9 (tm:List AV) (hp:List AObj) (k:AV->List AObj->α) (esz bytes:Nat) (s x:Opd):Qcb E tm hp k esz bytes s x=fin E hp k (Qka hp hp.length esz bytes (Qb tm s) (Qb tm x)):=by
 simp only [Qka,Qcb,Zg,Q4b,Jp,Z2m,J8,Q47,Q7a]
 cases Qb tm x<;>try rfl
 ·rename_i v;cases v<;>try rfl
  ·rename_i b
   by_cases h0:esz=1
   ·simp [h0]
   have:Nat.beq esz 1=false:=by rw [← Nu,Bv];exact h0
   simp [h0,this,Qni]
  rename_i es rows
  by_cases h0:es=esz
  ·simp [h0]
  have:Nat.beq es esz=false:=by rw [← Nu,Bv];exact h0
  simp [h0,this,Qni]
 rename_i es b off n;simp only []
 cases hp[b]? with
 | none=>rfl
 | some o=>
  cases o<;>try rfl
  rename_i cs
  by_cases h0:es=esz
  ·simp only [h0,Ak,Q2z,De];cases Q74 (n * esz) (cs.drop off)<;>rfl
  have:Nat.beq es esz=false:=by rw [← Nu,Bv];exact h0
  simp [h0,this,Qni]
theorem Qkv (tm:List AV) (hp:List AObj) (k:AV->List AObj->α) (esz:Nat) (x:Opd) (lo hi:Option Opd):Qic E tm hp k esz x lo hi=fin E hp k (Qry esz (Qb tm x) (lo.map (Qb tm)) (hi.map (Qb tm))):=by
 simp only [Qry,Qic,Zg,Qn2,Qi7,Jp]
 cases Qb tm x<;>try rfl
 ·rename_i v;cases v<;>try rfl
  rename_i es s;simp only []
  cases Qd6 0 (lo.map (Qb tm))<;>try rfl
  rename_i l;simp only []
  cases Qd6 s.length (hi.map (Qb tm))<;>try rfl
  rename_i h
  by_cases h0:es=esz<;>by_cases h1:l≤h<;>by_cases h2:h≤s.length<;>simp [h0,h1,h2,fin,Qq,G8]
 ·rename_i es a off s;simp only []
  cases Qd6 0 (lo.map (Qb tm))<;>try rfl
  rename_i l;simp only []
  cases Qd6 s (hi.map (Qb tm))<;>try rfl
  rename_i h
  by_cases h0:es=esz<;>by_cases h1:l≤h<;>by_cases h2:h≤s<;>simp [h0,h1,h2,fin,Qq,G8]

theorem Qjo (tm:List AV) (hp:List AObj) (k:AV->List AObj->α) (c:COp) (hc:c.isCall=false) :
  Q2k E tm hp k c=fin E hp k (Zf E.glob tm hp hp.length c):=by
 cases c with
 | call f args=>cases hc
 | callv f args=>cases hc
 | move x=>simp only [Q2k,Zf,Qxe,Zg];rfl
 | pick c a b=>
  simp only [Q2k,Zf,Qxo,Zg,Q67]
  cases Qb tm c<;>try rfl
  rename_i v;cases v<;>try rfl
  rename_i b;cases b<;>rfl
 | alloc z=>simp only [Q2k,Zf,Qsl,J8,Qab,Qm4,Q6w]
 | box x=>
  simp only [Q2k,Zf,Z1j,Zg,Qk1,Qab,Qw8,Qm4,Q6w]
  cases (Qb tm x).cells? <;> rfl
 | build z ps=>
  simp only [Q2k,Zf,Qrw,J8,Qn7,Q2z];cases Qb1 tm (z.map AV.p) ps<;>rfl
 | buildSlice z len esz ps=>
  simp only [Q2k,Zf,Qff,J8,Qn7,Qab,Qw8,Qm4,Q6w];cases Qb1 tm ((List.replicate len z).flatten.map AV.p) ps<;>rfl
 | load n agg x=>
  simp only [Q2k,Zf,Qx4,Zg,Qdw,Q7a,Q4d,Q2z]
  cases Q3u E.glob hp (Qb tm x) with
  | none=>rfl
  | some cs=>
   simp only []
   cases Q74 n cs with
   | none=>rfl
   | some cs=>simp only [];cases sOf agg cs<;>rfl
 | store n x y=>
  simp only [Q2k,Zf,Qrh,Zg,Q4b,Qk1,Jp,Qd5,Qby]
  cases Qb tm x<;>try rfl
  rename_i a off;simp only []
  cases hp[a]? with
  | none=>rfl
  | some o=>
   cases o<;>try rfl
   rename_i cs;simp only []
   cases (Qb tm y).cells? with
   | none=>rfl
   | some v=>
    simp only []
    by_cases h1:v.length=n<;>by_cases h2:off+n≤cs.length<;>simp [h1,h2,fin,Qc2]
 | nilCheck x=>
  simp only [Q2k,Zf,Qj4,Zg]
  cases Qb tm x<;>try rfl
  ·rename_i v;cases v<;>try rfl
   rename_i fn a b;cases fn<;>rfl
  rename_i fn a b;cases fn<;>rfl
 | ari op x y=>
  simp only [Q2k,Zf,Z1l,Zg]
  cases Qb tm x<;>try rfl
  rename_i v
  cases v<;>try rfl
  ·simp only []
   cases Qb tm y<;>try rfl
   rename_i v
   cases v<;>try rfl
   simp only [Z2w,Jp];rename_i i x j y;cases Qle op i j
   ·rfl
   simp only [Ak,Q2z];cases Z34 op i x y<;>rfl
  simp only []
  cases Qb tm y<;>try rfl
  rename_i v
  cases v<;>try rfl
  cases op<;>try rfl
  simp only [Jp];rename_i s t
  by_cases h:s.length+t.length≤4611686018427387904<;>simp [h,fin,Qq,G8]
 | cmp op x y=>
  simp only [Q2k,Zf,Z11,Zg,Q2z,E.cmp.2,E.scmp.2]
  cases Qb tm x<;>try rfl
  rename_i v
  cases v<;>try rfl
  ·simp only []
   cases Qb tm y<;>try rfl
   rename_i v
   cases v<;>try rfl
   rename_i i x j y;simp only [Jp,Z6h];cases i == j<;>rfl
  simp only []
  cases Qb tm y<;>try rfl
  rename_i v;cases v<;>rfl
 | eqB neg x y=>
  simp only [Q2k,Zf,Z1t,Zg]
  cases Qb tm x<;>try rfl
  rename_i v
  cases v<;>try rfl
  simp only []
  cases Qb tm y<;>try rfl
  rename_i v
  cases v<;>try rfl
  cases neg<;>rfl
 | eqP neg x y=>
  simp only [Q2k,Zf,Z1m,Zg]
  cases Qb tm x<;>try rfl
  ·rename_i v
   cases v<;>try rfl
   simp only []
   cases Qb tm y<;>try rfl
   rename_i v;cases v<;>rfl
  simp only []
  cases Qb tm y<;>try rfl
  rename_i v;cases v<;>rfl
 | eqAgg neg kinds x y=>
  simp only [Q2k,Zf,Qri,Zg,Qxw]
  cases (Qb tm x).aggs? <;> try rfl
  simp only []
  cases (Qb tm y).aggs? <;> try rfl
  simp only [Qlx,Q2z,Q67];rename_i cs ds;cases Wc kinds cs ds<;>rfl
 | not x=>
  simp only [Q2k,Zf,Z12,Zg];cases Qb tm x<;>try rfl
  rename_i v;cases v<;>rfl
 | neg x=>
  simp only [Q2k,Zf,Z17,Zg];cases Qb tm x<;>try rfl
  rename_i v;cases v<;>rfl
 | conv i x=>
  simp only [Q2k,Zf,Qvh,Zg];cases Qb tm x<;>try rfl
  rename_i v;cases v<;>rfl
 | bytesOf x=>
  simp only [Q2k,Zf,Qly,Zg];cases Qb tm x<;>try rfl
  rename_i v;cases v<;>try rfl
  simp only [J8,Qab,fin,Q6w]
 | strOf x=>
  simp only [Q2k,Zf,Qrq,Zg,Q4b]
  cases Qb tm x<;>try rfl
  ·rename_i v;cases v<;>rfl
  rename_i es a off len;simp only []
  cases hp[a]? with
  | none=>rfl
  | some o=>
   cases o<;>try rfl
   simp only [Q47,Q7a,Qiw,Q2z];rename_i cs
   cases Q74 len (cs.drop off) with
   | none=>rfl
   | some cs=>simp only [];cases Qrl cs<;>rfl
 | makeFunc fn a b=>simp only [Q2k,Zf,Qk3,Q3m];rfl
 | makeMap=>simp only [Q2k,Zf,Qlh,Qab,fin,Q6w]
 | bad=>rfl
 | sliceZ x=>
  simp only [Q2k,Zf,Qpd,Zg]
  cases Qb tm x<;>try rfl
  rename_i v;cases v<;>rfl
 | eqN neg x=>
  simp only [Q2k,Zf,Z1p,Zg]
  cases Qb tm x<;>try rfl
  ·rename_i v
   cases v<;>try rfl
   ·cases neg<;>rfl
   rename_i es rows;simp only [Jp];cases rows.isEmpty<;>rfl
  rename_i es b off len;simp only [Jp]
  by_cases h:0<len<;>simp [h,fin,Qq,G8,Nat.blt_eq]
 | extIx x y=>
  simp only [Q2k,Zf,Qsm,Zg]
  cases Qb tm x<;>try rfl
  rename_i v
  cases v<;>try (cases Qb tm y<;>rfl)
  cases Qb tm y<;>try rfl
  rename_i u
  cases u<;>try rfl
  rename_i s i c;simp only [Jp];cases i == IntKind.u8<;>rfl
 | rangeS x=>
  simp only [Q2k,Zf,Qoy,Zg]
  cases Qb tm x<;>try rfl
  rename_i v
  cases v<;>try rfl
  simp only [Qab,fin,Q6w]
 | nextS x=>
  simp only [Q2k,Zf,Qrx,Zg,Q4b]
  cases Qb tm x<;>try rfl
  rename_i b o;simp only []
  cases hp[b]? with
  | none=>rfl
  | some ob=>
   cases ob<;>try rfl
   rename_i s pos;simp only [Jp,Qby,Q67]
   by_cases h0:o=0
   ·subst h0
    by_cases hl:pos<s.length
    ·simp [hl,fin,Qc2,Nat.blt_eq]
    simp [hl,fin,Qq,G8,Nat.blt_eq]
   simp [h0,fin]
 | runeStr x=>
  simp only [Q2k,Zf,Qlj,Zg]
  cases Qb tm x<;>try rfl
  rename_i v;cases v<;>rfl
 | extCt x y=>
  simp only [Q2k,Zf,Qru,Zg]
  cases Qb tm x<;>try rfl
  rename_i v
  cases v<;>try (cases Qb tm y<;>rfl)
  cases Qb tm y<;>try rfl
  rename_i u
  cases u<;>try rfl
  rename_i s i c;simp only [Jp];cases i == IntKind.u8<;>rfl
 | mkIface t x=>simp only [Q2k,Zf,Ql1,Zg];rfl
 | asserT t z agg ok x=>
  simp only [Q2k,Zf,Qpc,Zg,Q67,Jp,J8,Q4d]
  have key:∀ (u:Nat) (v:AV),(if Nat.beq u t=true then if ok=true then k (.tuple [v,.p (.bool true)]) hp else k v hp else if ok=true then (match sOf agg (z.map .p) with
     | some z=>k (.tuple [z,.p (.bool false)]) hp
     | none=>E.fail) else E.fail)=fin E hp k (if u=t then Qq (if ok then .tuple [v,.p (.bool true)] else v) else if ok=true then (sOf agg (z.map .p)).bind fun z=>Qq (.tuple [z,.p (.bool false)]) else none):=by
   intro u v
   by_cases hu:u=t
   ·subst hu;cases ok<;>simp [fin,Qq,G8]
   have:Nat.beq u t=false:=by rw [← Nu,Bv];exact hu
   simp only [this,hu,Al,Mg];cases ok
   ·rfl
   simp only [Ak,Q2z];cases sOf agg (z.map .p)<;>rfl
  cases Qb tm x<;>try rfl
  ·rename_i v
   cases v<;>try rfl
   exact key _ _
  exact key _ _
 | eqI neg x=>
  simp only [Q2k,Zf,Z1e,Zg]
  cases Qb tm x<;>try rfl
  rename_i v
  cases v<;>first | rfl | (cases neg<;>rfl)
 | eqF neg x=>
  simp only [Q2k,Zf,Z0j,Zg]
  cases Qb tm x<;>try rfl
  rename_i v
  cases v<;>first | rfl | (cases neg<;>rfl)
 | del kk m ke=>
  simp only [Q2k,Zf,Z1i,Zg,Q4b]
  cases Qb tm m<;>try rfl
  rename_i r;cases Qb tm ke
  case p kv=>
   simp only []
   cases h:hp[r]? with
   | none=>rfl
   | some o=>
    cases o<;>try rfl
    rename_i es;simp only [Qd2,Jp]
    cases Q6b kk kv with
    | false=>rfl
    | true=>
     simp only [Ak,Bm,Al]
     cases Qbe kv 0 es with
     | none=>rfl
     | some r=>cases r<;>simp [Qby,fin,Qc2,Qq,G8]
  all_goals
   simp only []
   cases h:hp[r]? with
   | none=>rfl
   | some o=>cases o<;>rfl
 | insert kk m ke v=>
  simp only [Q2k,Zf,Qoi,Zg,Q4b]
  cases Qb tm m<;>try rfl
  rename_i r;cases Qb tm ke
  case p kv=>
   simp only []
   cases h:hp[r]? with
   | none=>rfl
   | some o=>
    cases o<;>try rfl
    rename_i es;simp only [Qd2,Jp]
    cases Q6b kk kv with
    | false=>rfl
    | true=>
     simp only [Ak,Bm,Al]
     cases Qbe kv 0 es with
     | none=>rfl
     | some r=>cases r<;>simp [Qby,Q5i,fin,Qc2]
  all_goals
   simp only []
   cases h:hp[r]? with
   | none=>rfl
   | some o=>cases o<;>rfl
 | lookup kk z agg ok m ke=>
  simp only [Q2k,Zf,Qoa,Zg,Q4b];cases Qb tm m
  case map r=>
   cases Qb tm ke
   case p kv=>
    simp only []
    cases h:hp[r]? with
    | none=>rfl
    | some o=>
     cases o<;>try rfl
     rename_i es;simp only [Qd2,Jp]
     cases Q6b kk kv with
     | false=>rfl
     | true=>
      simp only [Ak,Bm,Al]
      cases Qbe kv 0 es with
      | none=>rfl
      | some r=>
       cases r with
       | none=>
        simp only [J8,Q4d,Q2z];cases sOf agg (z.map AV.p)<;>cases ok<;>rfl
       | some r=>cases ok<;>rfl
   all_goals
    simp only []
    cases h:hp[r]? with
    | none=>rfl
    | some o=>cases o<;>rfl
  case p mv=>
   cases mv<;>try (cases Qb tm ke<;>rfl)
   rename_i ps
   cases Qb tm ke<;>try rfl
   rename_i kv;simp only [Jp,Qix]
   cases Q6b kk kv with
   | false=>rfl
   | true=>
    simp only [Ak,Bm,Al]
    cases Qny kv ps with
    | none=>rfl
    | some r=>
     cases r with
     | none=>
      simp only [J8,Q4d,Q2z];cases sOf agg (z.map AV.p)<;>cases ok<;>rfl
     | some r=>cases ok<;>rfl
  all_goals (cases Qb tm ke<;>rfl)
 | makeSlice z bytes l c=>
  simp only [Q2k,Zf,Qh8,Zg]
  cases Qb tm l<;>try rfl
  rename_i v;cases v<;>try rfl
  simp only []
  cases Qb tm c<;>try rfl
  rename_i v;cases v<;>try rfl
  simp only [Jp,J8,Qab];rename_i l _ c
  by_cases h1:0≤l<;>by_cases h2:l≤c<;>by_cases h3:c * bytes≤1099511627776<;>simp [h1,h2,h3,fin,Q6w]
 | sliceStr x lo hi=>
  simp only [Q2k,Zf,Qjp,Zg,Qn2,Qi7,Jp]
  cases Qb tm x<;>try rfl
  rename_i v;cases v<;>try rfl
  rename_i s;simp only []
  cases Qd6 0 (lo.map (Qb tm))<;>try rfl
  rename_i l;simp only []
  cases Qd6 s.length (hi.map (Qb tm))<;>try rfl
  rename_i h
  by_cases h1:l≤h<;>by_cases h2:h≤s.length<;>simp [h1,h2,fin,Qq,G8]
 | slice esz x lo hi=>exact Qkv E tm hp k esz x lo hi
 | slice3 esz x lo hi mx=>
  simp only [Q2k,Zf,Qp7,Qn2,Qi7,Jp,Qkv]
  cases Qd6 0 (hi.map (Qb tm))<;>try rfl
  rename_i h;simp only []
  cases Qd6 0 (mx.map (Qb tm))<;>try rfl
  rename_i m
  by_cases h0:h=m<;>simp [h0,fin]
 | sliceArr n esz x lo hi=>
  simp only [Q2k,Zf,Qji,Zg,Qn2,Qi7,Jp,Q4b]
  cases Qb tm x<;>try rfl
  rename_i a off;simp only []
  cases hp[a]? with
  | none=>rfl
  | some o=>
   cases o<;>try rfl
   rename_i cs;simp only []
   cases Qd6 0 (lo.map (Qb tm))<;>try rfl
   rename_i l;simp only []
   cases Qd6 n (hi.map (Qb tm))<;>try rfl
   rename_i h
   by_cases h0:off+n * esz≤cs.length<;>by_cases h1:l≤h<;>by_cases h2:h≤n<;>simp [h0,h1,h2,fin,Qq,G8]
 | fieldAddr x off=>simp only [Q2k,Zf,Qhm,Zg,Q47];cases Qb tm x<;>rfl
 | field x off n agg=>
  simp only [Q2k,Zf,Qsn,Zg,Qxw]
  cases (Qb tm x).aggs? <;> try rfl
  simp only [Q47,Q7a,Q4d,Q2z];rename_i cs
  cases Q74 n (cs.drop off) with
  | none=>rfl
  | some cs=>simp only [];cases sOf agg cs<;>rfl
 | indexAddr esz x i=>
  simp only [Q2k,Zf,Qhf,Zg,Jp,Qy6]
  cases Qb tm x<;>try rfl
  ·rename_i v;cases v<;>try rfl
   simp only []
   cases Qb tm i<;>try rfl
   rename_i v;cases v<;>try rfl
   rename_i es rows _ n
   by_cases h0:es=esz<;>cases hi:idx rows n<;>simp [h0,hi,fin,Qq,G8]
  simp only []
  cases Qb tm i<;>try rfl
  rename_i v;cases v<;>try rfl
  rename_i es a off len _ n
  by_cases h1:0≤n<;>by_cases h2:n<len<;>simp [h1,h2,fin,Qq,G8]
 | indexArr len esz x i=>
  simp only [Q2k,Zf,Qk2,Zg,Jp]
  cases Qb tm x<;>try rfl
  all_goals
   simp only []
   cases Qb tm i<;>try rfl
   rename_i v;cases v<;>try rfl
   rename_i n
   by_cases h1:0≤n<;>by_cases h2:n<len<;>simp [h1,h2,fin,Qq,G8]
 | indexStr x i=>
  simp only [Q2k,Zf,Qjm,Zg,Qy6]
  cases Qb tm x<;>try rfl
  rename_i v;cases v<;>try rfl
  simp only []
  cases Qb tm i<;>try rfl
  rename_i v;cases v<;>try rfl
  simp only [Q2z];rename_i s _ n;cases idx s n<;>rfl
 | extract x i=>
  simp only [Q2k,Zf,Qlz,Zg]
  cases Qb tm x<;>try rfl
  ·rename_i v;cases v<;>try rfl
   rename_i vs;simp only [Q2z];cases vs[i]? <;> rfl
  rename_i vs;simp only [Q2z];cases vs[i]? <;> rfl
 | lenStr x=>
  simp only [Q2k,Zf,Qnp,Zg]
  cases Qb tm x<;>try rfl
  rename_i v;cases v<;>rfl
 | lenSl x=>
  simp only [Q2k,Zf,Qs6,Zg]
  cases Qb tm x<;>try rfl
  rename_i v;cases v<;>rfl
 | lenMap x=>
  simp only [Q2k,Zf,Qp4,Zg,Q4b]
  cases Qb tm x<;>try rfl
  ·rename_i v;cases v<;>rfl
  rename_i r;simp only []
  cases hp[r]? with
  | none=>rfl
  | some o=>cases o<;>rfl
 | append esz bytes s x=>simp only [Q2k,Zf];exact Qh9 ..
 | appendT esz bytes s x=>
  simp only [Q2k,Zf,Qll,Zg,Qh9,Qr6]
  cases hs:Qb tm s<;>try rfl
  rename_i es a off len;simp only [Q4b,Jp,Qfc,Qby]
  cases hp[a]? with
  | none=>rfl
  | some o=>
   cases o<;>try rfl
   rename_i cs;simp only []
   by_cases h0:off+len * esz≤cs.length
   ·have h1:Nat.ble (off+len * esz) cs.length=true:=by simpa using h0
    rw [h1,Af h0,Af rfl];rw [Bf]
    cases hq:Qka (hp.set a (.cells (cs.take (off+len * esz)))) hp.length esz bytes (.slice es a off len) (Qb tm x) with
    | none=>rfl
    | some q=>
     obtain ⟨v,e⟩:=q;show k v (e.apply (hp.set a (.cells (cs.take (off+len * esz)))) (hp.set a (.cells (cs.take (off+len * esz)))).length)=k v ((e.pre a (.cells (cs.take (off+len * esz)))).apply hp hp.length);rw [Qou (Qq6 hq),Bf]
   have h1:Nat.ble (off+len * esz) cs.length=false:=by rw [← Nu,Lm];exact h0
   rw [h1,Ae h0];rfl
 | copyB d s=>
  have hc:∀ new,(match Qb tm d with
    | .p .nilSlice=>k (.p (.int .i64 0)) hp
    | .slice es a off len=>Qol E hp a fun
     | .cells cs=>chk E (Nat.beq es 1&&(Nat.ble (off+len) cs.length&&Nat.ble 1 len))
      (Qj3 len new cs off fun n cs=>Qus hp a (.cells cs) fun hp=>k (.p (.int .i64 n)) hp)
     | _=>E.fail
    | _=>E.fail)=fin E hp k (Qpv hp (Qb tm d) new):=fun new=>by
   simp only [Q4b,Jp,Qj3,Qfc,Qn3,Qd5,Qby,Qpv]
   cases Qb tm d<;>try rfl
   ·rename_i v;cases v<;>rfl
   rename_i es a off len;simp only []
   cases hp[a]? with
   | none=>rfl
   | some o=>
    cases o<;>try rfl
    rename_i cs;simp only []
    by_cases h1:es=1<;>by_cases h2:off+len≤cs.length<;>by_cases h3:1≤len<;>simp [h1,h2,h3,fin,Qc2]<;>omega
  simp only [Q2k,Zf,Qsj,Zg,Z3v]
  cases Qvd hp (Qb tm s) with
  | none=>rfl
  | some new=>exact hc new
 | max x y=>
  simp only [Q2k,Zf,Z0u,Zg,Q67]
  cases Qb tm x<;>try rfl
  rename_i v;cases v<;>try rfl
  simp only []
  cases Qb tm y<;>try rfl
  rename_i v;cases v<;>try rfl
  simp [fin,Qq,G8]
 | min x y=>
  simp only [Q2k,Zf,Z0s,Zg,Q67]
  cases Qb tm x<;>try rfl
  rename_i v;cases v<;>try rfl
  simp only []
  cases Qb tm y<;>try rfl
  rename_i v;cases v<;>try rfl
  simp [fin,Qq,G8]
end
end
end Go.Av
