/- Part of FromsnBack: the law returns true; no condition. -/
import Derived.Test.YthbmcbacbhfnmaaGreatDoorAvStep
set_option linter.all false
namespace Go.Av
noncomputable section
set_option maxHeartbeats 4000000
universe u
section
variable {α:Type u} (E:Env α)
def fin (E:Env α) (hp:List AObj) (k:AV->List AObj->α):Option (AV×Eff)->α
 | some (v,e)=>k v (e.apply hp hp.length)
 | none=>E.fail
theorem Z2p (hp:List AObj) (k:AV->List AObj->α):fin E hp k none=E.fail:=rfl
theorem Qml (hp:List AObj) (k:AV->List AObj->α) (v:AV) (e:Eff):fin E hp k (some (v,e))=k v (e.apply hp hp.length):=rfl
def Q3v {β:Type} (hp:List AObj) (k:AV->List AObj->α) (o:Option β) (f : β->Option (AV×Eff)):fin E hp k (o.bind f)=(match o with
  | some b=>fin E hp k (f b)
  | none=>E.fail):=gM
theorem Qyr {β:Type} (hp:List AObj) (k:AV->List AObj->α) (o:Option β) (f : β->AV×Eff):fin E hp k (o.map f)=(match o with
  | some b=>fin E hp k (some (f b))
  | none=>E.fail):=gM
theorem Q6i (hp:List AObj) (o:AObj):({ new:=some o }:Eff).apply hp hp.length=hp ++ [o]:=by simp [Eff.apply,plc]
theorem Qb7 (hp:List AObj) (n:Nat) (a:Nat) (o:AObj):({ set:=some (a,o) }:Eff).apply hp n=hp.set a o:=by rfl
def Qva (hp:List AObj) (a:Nat) (o o':AObj):({ set:=some (a,o),new:=some o' }:Eff).apply hp hp.length=hp.set a o ++ [o']:=by simp [Eff.apply,plc]
theorem Gu (hp:List AObj) (n:Nat):({}:Eff).apply hp n=hp:=rfl

def Z5e (hp:List AObj) (esz bytes:Nat) (s:AV) (new:List AV) (n:Nat) (k:AV->List AObj->α) :
  Z3t E hp esz bytes s new n k=fin E hp k (Qkm hp hp.length esz bytes s new n):=by
 unfold Z3t Qkm
 by_cases hn:n=0
 ·subst hn;simp only [ifB,Ak]
  cases s with
  | p v=>cases v<;>rfl
  | _=>rfl
 ·have:Nat.beq n 0=false:=by cases n<;>first | rfl | simp_all
  simp only [this,ifB,hn,Al]
  cases s with
  | p v=>
   cases v<;>(try rfl) <;>
   (by_cases h3:(n+4096) * bytes≤17592186044416<;>simp [Jt,Q9d,h3,fin,Q6i])
  | slice es a off len=>
   simp only [Q42]
   cases h:hp[a]? with
   | none=>rfl
   | some o=>
    cases o<;>simp only [Jt,Q58,Q40,Qav,Q9d,fin]<;>(try rfl)
    by_cases h1:es=esz<;>rename_i cs<;>by_cases h2:off+len * esz=cs.length<;>by_cases h3:(len+n+4096) * bytes≤17592186044416<;>simp [h1,h2,h3,Qva,List.length_set]
  | _=>rfl

def Z7o (hp:List AObj) (K:List AV->α) (v:AV):Zbr E hp K v=(match Qy3 hp v with
  | some new=>K new
  | none=>E.fail):=by
 unfold Zbr Qy3
 cases v<;>try rfl
 ·grind [Jr,Jt,Nat.beq_eq]
 grind [Q42,Q58,Jt,Q52,Nat.beq_eq]
def Qg1 (tm:List AV) (hp:List AObj) (k:AV->List AObj->α) (esz bytes:Nat) (s x:Opd):Qb5 E tm hp k esz bytes s x=fin E hp k (Qjf hp hp.length esz bytes (Q9 tm s) (Q9 tm x)):=by
 simp only [Qjf,Qb5,Zg,Q42,Jt,Z5e,Jr,Q58,Q52]
 grind [Nat.beq_eq,Z2p]
def Qjz (tm:List AV) (hp:List AObj) (k:AV->List AObj->α) (esz:Nat) (x:Opd) (lo hi:Option Opd):Qgl E tm hp k esz x lo hi=fin E hp k (Qtg esz (Q9 tm x) (lo.map (Q9 tm)) (hi.map (Q9 tm))):=by
 simp only [Qtg,Qgl,Zg,Qlt,Qgj,Jt]
 cases Q9 tm x<;>try rfl
 ·rename_i v;cases v<;>try rfl
  rename_i es s;simp only []
  cases Qbp 0 (lo.map (Q9 tm))<;>try rfl
  rename_i l;simp only []
  cases Qbp s.length (hi.map (Q9 tm))<;>try rfl
  rename_i h
  by_cases h0:es=esz<;>by_cases h1:l≤h<;>by_cases h2:h≤s.length<;>simp [h0,h1,h2,fin,Qv,Gu]
 ·rename_i es a off s;simp only []
  cases Qbp 0 (lo.map (Q9 tm))<;>try rfl
  rename_i l;simp only []
  cases Qbp s (hi.map (Q9 tm))<;>try rfl
  rename_i h
  by_cases h0:es=esz<;>by_cases h1:l≤h<;>by_cases h2:h≤s<;>simp [h0,h1,h2,fin,Qv,Gu]

def Qgy (tm:List AV) (hp:List AObj) (k:AV->List AObj->α) (c:COp) (hc:c.isCall=false) :
  Q11 E tm hp k c=fin E hp k (step E.glob tm hp hp.length c):=by
 cases c with
 | call f args=>cases hc
 | callv f args=>cases hc
 | move x=>simp only [Q11,step,Qmc,Zg];rfl
 | pick c a b=>
  simp only [Q11,step,Qxq,Zg,Q4i]
  cases Q9 tm c<;>try rfl
  rename_i v;cases v<;>try rfl
  rename_i b;cases b<;>rfl
 | alloc z=>simp_all [Q11,step,Qs7,Jr,Q9d,Qml,Q6i]
 | box x=>
  grind [Q11,step,Z4f,Zg,Qj5,Q9d,Qyr,Qml,Q6i]
 | build z ps=>
  simp only [Q11,step,Qrw,Jr,Qmj,Q3v];cases Qbe tm (z.map AV.p) ps<;>rfl
 | buildSlice z len esz ps=>
  grind [Q11,step,Qe0,Jr,Qmj,Q9d,Qyr,Qml,Q6i]
 | load n agg x=>
  simp only [Q11,step,Qwn,Zg,Q7b,Q52,Q1u,Q3v]
  cases Q2q E.glob hp (Q9 tm x) with
  | none=>rfl
  | some cs=>
   simp only []
   cases Q71 n cs with
   | none=>rfl
   | some cs=>simp only [];cases sOf agg cs<;>rfl
 | store n x y=>
  simp only [Q11,step,Qsk,Zg,Q42,Qj5,Jt,Qbn,Qav]
  cases Q9 tm x<;>try rfl
  rename_i a off;simp only []
  cases hp[a]? with
  | none=>rfl
  | some o=>
   cases o<;>try rfl
   rename_i cs;simp only []
   cases (Q9 tm y).cells? with
   | none=>rfl
   | some v=>
    simp only []
    by_cases h1:v.length=n<;>by_cases h2:off+n≤cs.length<;>simp [h1,h2,fin,Qb7]
 | nilCheck x=>
  simp only [Q11,step,Qip,Zg]
  cases Q9 tm x<;>try rfl
  ·rename_i v;cases v<;>try rfl
   rename_i fn a b;cases fn<;>rfl
  rename_i fn a b;cases fn<;>rfl
 | ari op x y=>
  simp only [Q11,step,Z4a,Zg]
  cases Q9 tm x<;>try rfl
  rename_i v
  cases v<;>try rfl
  ·simp only []
   cases Q9 tm y<;>try rfl
   rename_i v
   cases v<;>try rfl
   simp only [Z7f,Jt];rename_i i x j y;cases Qk8 op i j
   ·rfl
   simp only [Ak,Q3v];cases Z6h op i x y<;>rfl
  simp only []
  cases Q9 tm y<;>try rfl
  rename_i v
  cases v<;>try rfl
  cases op<;>try rfl
  simp only [Jt];rename_i s t
  by_cases h:s.length+t.length≤4611686018427387904<;>simp [h,fin,Qv,Gu]
 | cmp op x y=>
  simp only [Q11,step,Z3b,Zg,Q3v,E.cmp.2,E.scmp.2]
  cases Q9 tm x<;>try rfl
  rename_i v
  cases v<;>try rfl
  ·simp only []
   cases Q9 tm y<;>try rfl
   rename_i v
   cases v<;>try rfl
   rename_i i x j y;simp only [Jt,Zar];cases i == j<;>rfl
  exact eX
 | eqB neg x y=>
  simp only [Q11,step,Z4l,Zg]
  cases Q9 tm x<;>try rfl
  rename_i v
  cases v<;>try rfl
  simp only []
  cases Q9 tm y<;>try rfl
  rename_i v
  cases v<;>try rfl
  cases neg<;>rfl
 | eqP neg x y=>
  simp only [Q11,step,Z3m,Zg]
  cases Q9 tm x<;>try rfl
  ·rename_i v
   cases v<;>try rfl
   exact eX
  exact eX
 | eqAgg neg kinds x y=>
  simp only [Q11,step,Qsi,Zg,Qxm]
  cases (Q9 tm x).aggs? <;> try rfl
  simp only []
  cases (Q9 tm y).aggs? <;> try rfl
  simp only [Qks,Q3v,Q4i];rename_i cs ds;cases V6 kinds cs ds<;>rfl
 | not x=>
  simp only [Q11,step,Z4n,Zg];cases Q9 tm x<;>try rfl
  exact bY
 | neg x=>
  simp only [Q11,step,Z46,Zg];cases Q9 tm x<;>try rfl
  exact bY
 | conv i x=>
  simp only [Q11,step,Qzr,Zg];cases Q9 tm x<;>try rfl
  exact bY
 | bytesOf x=>
  grind [Q11,step,Qkw,Zg,Jr,Q9d,fin,Q6i]
 | strOf x=>
  simp only [Q11,step,Qte,Zg,Q42]
  cases Q9 tm x<;>try rfl
  ·exact bY
  rename_i es a off len;simp only []
  cases hp[a]? with
  | none=>rfl
  | some o=>
   cases o<;>try rfl
   simp only [Q58,Q52,Qjc,Q3v];rename_i cs
   cases Q71 len (cs.drop off) with
   | none=>rfl
   | some cs=>simp only [];cases Qvm cs<;>rfl
 | makeFunc fn a b=>simp only [Q11,step,Qiu,Q1x];rfl
 | makeMap=>simp_all [Q11,step,Qk2,Q9d,fin,Q6i]
 | bad=>rfl
 | sliceZ x=>
  simp only [Q11,step,Qp9,Zg]
  exact fm
 | eqN neg x=>
  simp only [Q11,step,Z3l,Zg]
  cases Q9 tm x<;>try rfl
  ·rename_i v
   cases v<;>try rfl
   ·cases neg<;>rfl
   rename_i es rows;simp only [Jt];cases rows.isEmpty<;>rfl
  grind [Jt,fin,Qv,Gu,Nat.blt_eq]
 | extIx x y=>
  simp only [Q11,step,Qso,Zg]
  exact bZ
 | rangeS x=>
  grind [Q11,step,Qno,Zg,Q9d,fin,Q6i]
 | nextS x=>
  simp only [Q11,step,Qsu,Zg,Q42]
  cases Q9 tm x<;>try rfl
  rename_i b o;simp only []
  cases hp[b]? with
  | none=>rfl
  | some ob=>
   cases ob<;>try rfl
   rename_i s pos;simp only [Jt,Qav,Q4i]
   by_cases h0:o=0
   ·subst h0
    by_cases hl:pos<s.length
    ·simp [hl,fin,Qb7,Nat.blt_eq]
    simp [hl,fin,Qv,Gu,Nat.blt_eq]
   simp [h0,fin]
 | runeStr x=>
  simp only [Q11,step,Ql4,Zg]
  exact fm
 | extCt x y=>
  simp only [Q11,step,Qsj,Zg]
  exact bZ
 | mkIface t x=>simp only [Q11,step,Qk7,Zg];rfl
 | asserT t z agg ok x=>
  simp only [Q11,step,Qnu,Zg,Q4i,Jt,Jr,Q1u]
  grind [fin,Qv,Gu,Nat.beq_eq]
 | eqI neg x=>
  simp only [Q11,step,Z3r,Zg]
  exact fL
 | eqF neg x=>
  simp only [Q11,step,Z43,Zg]
  exact fL
 | del kk m ke=>
  simp only [Q11,step,Z3h,Zg,Q42]
  cases Q9 tm m<;>try rfl
  grind [Q79,Jt,Qav,fin,Qb7]
 | insert kk m ke v=>
  simp only [Q11,step,Qon,Zg,Q42]
  cases Q9 tm m<;>try rfl
  rename_i r;cases Q9 tm ke<;>grind [Q79,Jt,Qav,Q40,fin,Qb7]
 | lookup kk z agg ok m ke=>
  simp only [Q11,step,Qo9,Zg,Q42];cases Q9 tm m
  case map r=>
   cases Q9 tm ke
   case p kv=>
    simp only []
    cases h:hp[r]? with
    | none=>rfl
    | some o=>
     cases o<;>try rfl
     rename_i es;simp only [Q79,Jt]
     cases Q73 kk kv with
     | false=>rfl
     | true=>
      simp only [Ak,Bool.true_eq_false,Al]
      cases Q43 kv 0 es with
      | none=>rfl
      | some r=>
       exact dv
   all_goals
    simp only []
    cases h:hp[r]? with
    | none=>rfl
    | some o=>exact gM
  case p mv=>
   cases mv<;>try (cases Q9 tm ke<;>rfl)
   rename_i ps
   cases Q9 tm ke<;>try rfl
   rename_i kv;simp only [Jt,Qmh]
   cases Q73 kk kv with
   | false=>rfl
   | true=>
    simp only [Ak,Bool.true_eq_false,Al]
    cases Qpa kv ps with
    | none=>rfl
    | some r=>
     exact dv
  all_goals (cases Q9 tm ke<;>rfl)
 | makeSlice z bytes l c=>
  grind [Q11,step,Qf8,Zg,Jt,Jr,Q9d,fin,Q6i]
 | sliceStr x lo hi=>
  simp only [Q11,step,Qi0,Zg,Qlt,Qgj,Jt]
  cases Q9 tm x<;>try rfl
  rename_i v;cases v<;>try rfl
  rename_i s;simp only []
  cases Qbp 0 (lo.map (Q9 tm))<;>try rfl
  rename_i l;simp only []
  cases Qbp s.length (hi.map (Q9 tm))<;>try rfl
  rename_i h
  by_cases h1:l≤h<;>by_cases h2:h≤s.length<;>simp [h1,h2,fin,Qv,Gu]
 | slice esz x lo hi=>exact Qjz E tm hp k esz x lo hi
 | slice3 esz x lo hi mx=>
  simp only [Q11,step,Qni,Qlt,Qgj,Jt,Qjz]
  cases Qbp 0 (hi.map (Q9 tm))<;>try rfl
  rename_i h;simp only []
  cases Qbp 0 (mx.map (Q9 tm))<;>try rfl
  rename_i m
  by_cases h0:h=m<;>simp [h0,fin]
 | sliceArr n esz x lo hi=>
  simp only [Q11,step,Qhj,Zg,Qlt,Qgj,Jt,Q42]
  cases Q9 tm x<;>try rfl
  rename_i a off;simp only []
  cases hp[a]? with
  | none=>rfl
  | some o=>
   cases o<;>try rfl
   rename_i cs;simp only []
   cases Qbp 0 (lo.map (Q9 tm))<;>try rfl
   rename_i l;simp only []
   cases Qbp n (hi.map (Q9 tm))<;>try rfl
   rename_i h
   by_cases h0:off+n * esz≤cs.length<;>by_cases h1:l≤h<;>by_cases h2:h≤n<;>simp [h0,h1,h2,fin,Qv,Gu]
 | fieldAddr x off=>simp only [Q11,step,Qfr,Zg,Q58];cases Q9 tm x<;>rfl
 | field x off n agg=>
  simp only [Q11,step,Qsl,Zg,Qxm]
  cases (Q9 tm x).aggs? <;> try rfl
  simp only [Q58,Q52,Q1u,Q3v];rename_i cs
  cases Q71 n (cs.drop off) with
  | none=>rfl
  | some cs=>simp only [];cases sOf agg cs<;>rfl
 | indexAddr esz x i=>
  simp only [Q11,step,Qfk,Zg,Jt,Z04]
  cases Q9 tm x<;>try rfl
  ·rename_i v;cases v<;>try rfl
   simp only []
   cases Q9 tm i<;>try rfl
   rename_i v;cases v<;>try rfl
   rename_i es rows _ n
   by_cases h0:es=esz<;>cases hi:idx rows n<;>simp [h0,hi,fin,Qv,Gu]
  grind [fin,Qv,Gu]
 | indexArr len esz x i=>
  grind [Q11,step,Qhl,Zg,Jt,fin,Qv,Gu]
 | indexStr x i=>
  simp only [Q11,step,Qh2,Zg,Z04]
  cases Q9 tm x<;>try rfl
  rename_i v;cases v<;>try rfl
  simp only []
  cases Q9 tm i<;>try rfl
  rename_i v;cases v<;>try rfl
  simp only [Q3v];rename_i s _ n;cases idx s n<;>rfl
 | extract x i=>
  simp only [Q11,step,Qc0,Zg]
  cases Q9 tm x<;>try rfl
  ·rename_i v;cases v<;>try rfl
   rename_i vs;simp only [Q3v];cases vs[i]? <;> rfl
  rename_i vs;simp only [Q3v];cases vs[i]? <;> rfl
 | lenStr x=>
  simp only [Q11,step,Qpk,Zg]
  exact fm
 | lenSl x=>
  simp only [Q11,step,Qrm,Zg]
  exact fm
 | lenMap x=>
  simp only [Q11,step,Qpg,Zg,Q42]
  cases Q9 tm x<;>try rfl
  ·exact bY
  rename_i r;simp only []
  cases hp[r]? with
  | none=>rfl
  | some o=>exact gM
 | append esz bytes s x=>simp only [Q11,step];exact Qg1 ..
 | appendT esz bytes s x=>
  simp only [Q11,step,Qkx,Zg,Qg1,Qqw]
  cases hs:Q9 tm s<;>try rfl
  rename_i es a off len;simp only [Q42,Jt,Qeb,Qav]
  cases hp[a]? with
  | none=>rfl
  | some o=>
   cases o<;>try rfl
   rename_i cs;simp only []
   by_cases h0:off+len * esz≤cs.length
   ·have h1:Nat.ble (off+len * esz) cs.length=true:=by simpa using h0
    rw [h1,Af h0,Af rfl];rw [Nk]
    cases hq:Qjf (hp.set a (.cells (cs.take (off+len * esz)))) hp.length esz bytes (.slice es a off len) (Q9 tm x) with
    | none=>rfl
    | some q=>
     obtain ⟨v,e⟩:=q;show k v (e.apply (hp.set a (.cells (cs.take (off+len * esz)))) (hp.set a (.cells (cs.take (off+len * esz)))).length)=k v ((e.pre a (.cells (cs.take (off+len * esz)))).apply hp hp.length);rw [Qo0 (Qqp hq),Nk]
   have h1:Nat.ble (off+len * esz) cs.length=false:=dH
   rw [h1,Ae h0];rfl
 | copyB d s=>
  have hc:∀ new,(match Q9 tm d with
    | .p .nilSlice=>k (.p (.int .i64 0)) hp
    | .slice es a off len=>Qp1 E hp a fun
     | .cells cs=>chk E (Nat.beq es 1&&(Nat.ble (off+len) cs.length&&Nat.ble 1 len))
      (Qjw len new cs off fun n cs=>Qvg hp a (.cells cs) fun hp=>k (.p (.int .i64 n)) hp)
     | _=>E.fail
    | _=>E.fail)=fin E hp k (Qr0 hp (Q9 tm d) new):=fun new=>by
   simp only [Q42,Jt,Qjw,Qeb,Qmo,Qbn,Qav,Qr0]
   cases Q9 tm d<;>try rfl
   ·exact bY
   rename_i es a off len;simp only []
   cases hp[a]? with
   | none=>rfl
   | some o=>
    cases o<;>try rfl
    rename_i cs;simp only []
    by_cases h1:es=1<;>by_cases h2:off+len≤cs.length<;>by_cases h3:1≤len<;>simp [h1,h2,h3,fin,Qb7]<;>omega
  simp only [Q11,step,Qtd,Zg,Z7o]
  cases Qy3 hp (Q9 tm s) with
  | none=>rfl
  | some new=>exact hc new
 | max x y=>
  grind [Q11,step,Z3u,Zg,Q4i,fin,Qv,Gu]
 | min x y=>
  grind [Q11,step,Z3g,Zg,Q4i,fin,Qv,Gu]
end
end
end Go.Av
