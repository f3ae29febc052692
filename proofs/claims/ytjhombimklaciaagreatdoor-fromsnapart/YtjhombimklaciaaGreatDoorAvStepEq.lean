/- Part of the proof of FromsnApart: for every input the law returns true; no condition. -/
import Derived.Test.YtjhombimklaciaaGreatDoorAvStep
namespace Go.Av
noncomputable section
universe u
section
variable {α : Type u} (E : Env α)
def fin (E : Env α) (hp : List AObj) (k : AV → List AObj → α) : Option (AV × Eff) → α
 | some (v, e) => k v (e.apply hp hp.length)
 | none => E.fail
theorem Qbx (hp : List AObj) (k : AV → List AObj → α) : fin E hp k none = E.fail := rfl
theorem Qce (hp : List AObj) (k : AV → List AObj → α) (v : AV) (e : Eff) : fin E hp k (some (v, e)) = k v (e.apply hp hp.length) := rfl
theorem Vx {β : Type} (hp : List AObj) (k : AV → List AObj → α) (o : Option β) (f : β → Option (AV × Eff)) : fin E hp k (o.bind f) = (match o with
  | some b => fin E hp k (f b)
  | none => E.fail) := by cases o <;> rfl
theorem Qjw {β : Type} (hp : List AObj) (k : AV → List AObj → α) (o : Option β) (f : β → AV × Eff) : fin E hp k (o.map f) = (match o with
  | some b => fin E hp k (some (f b))
  | none => E.fail) := by cases o <;> rfl
theorem Gp (hp : List AObj) (o : AObj) : ({ new := some o } : Eff).apply hp hp.length = hp ++ [o] := by simp [Eff.apply, plc]
theorem Q3d (hp : List AObj) (n : Nat) (a : Nat) (o : AObj) : ({ set := some (a, o) } : Eff).apply hp n = hp.set a o := by simp [Eff.apply]
theorem Qj2 (hp : List AObj) (a : Nat) (o o' : AObj) : ({ set := some (a, o), new := some o' } : Eff).apply hp hp.length = hp.set a o ++ [o'] := by simp [Eff.apply, plc]
theorem Xu (hp : List AObj) (n : Nat) : ({} : Eff).apply hp n = hp := rfl

theorem Qpo (hp : List AObj) (esz bytes : Nat) (s : AV) (new : List AV) (n : Nat) (k : AV → List AObj → α) :
  Qoq E hp esz bytes s new n k = fin E hp k (Qb9 hp hp.length esz bytes s new n) := by
 unfold Qoq Qb9
 by_cases hn : n = 0
 ·subst hn;simp only [ifB, if_true]
  cases s with
  | p v => cases v <;> rfl
  | _ => rfl
 ·have : Nat.beq n 0 = false := by cases n <;> first | rfl | simp_all
  simp only [this, ifB, hn, if_false]
  cases s with
  | p v =>
   cases v <;> (try rfl) <;>
   (by_cases h3 : (n + 4096) * bytes ≤ 17592186044416 <;> simp [Xs, Q2q, h3, fin, Gp])
  | slice es a off len =>
   simp only [J8]
   cases h : hp[a]? with
   | none => rfl
   | some o =>
    cases o <;> simp only [Xs, J1, J7, Q3l, Q2q, fin] <;> (try rfl)
    by_cases h1 : es = esz <;> rename_i cs <;> by_cases h2 : off + len * esz = cs.length <;> by_cases h3 : (len + n + 4096) * bytes ≤ 17592186044416 <;> simp [h1, h2, h3, Qj2, List.length_set]
  | _ => rfl

theorem Qqh (hp : List AObj) (K : List AV → α) (v : AV) : Qu3 E hp K v = (match Qjy hp v with
  | some new => K new
  | none => E.fail) := by
 unfold Qu3 Qjy
 cases v <;> try rfl
 ·rename_i p; cases p <;> try rfl
  ·simp [Xh]
  rename_i es rows;simp only [Xs, Xh]
  by_cases h0 : es = 1
  ·simp [h0]
  have : Nat.beq es 1 = false := by rw [← Np, Bg]; exact h0
  simp [h0, this]
 rename_i es b off n;simp only [J8, J1, Xs, Q08]
 cases hp[b]? with
 | none => rfl
 | some o =>
  cases o <;> try rfl
  rename_i cs
  by_cases h0 : es = 1
  ·simp only [h0, if_true, Da];cases Q00 n (cs.drop off) <;> rfl
  have : Nat.beq es 1 = false := by rw [← Np, Bg]; exact h0
  simp [h0, this]
theorem Q7e (tm : List AV) (hp : List AObj) (k : AV → List AObj → α) (esz bytes : Nat) (s x : Opd) : Q3j E tm hp k esz bytes s x = fin E hp k (Q9x hp hp.length esz bytes (Q4 tm s) (Q4 tm x)) := by
 simp only [Q9x, Q3j, Qo, J8, Xs, Qpo, Xh, J1, Q08]
 cases Q4 tm x <;> try rfl
 ·rename_i v; cases v <;> try rfl
  ·rename_i b
   by_cases h0 : esz = 1
   ·simp [h0]
   have : Nat.beq esz 1 = false := by rw [← Np, Bg]; exact h0
   simp [h0, this, Qbx]
  rename_i es rows
  by_cases h0 : es = esz
  ·simp [h0]
  have : Nat.beq es esz = false := by rw [← Np, Bg]; exact h0
  simp [h0, this, Qbx]
 rename_i es b off n;simp only []
 cases hp[b]? with
 | none => rfl
 | some o =>
  cases o <;> try rfl
  rename_i cs
  by_cases h0 : es = esz
  ·simp only [h0, if_true, Vx, Da];cases Q00 (n * esz) (cs.drop off) <;> rfl
  have : Nat.beq es esz = false := by rw [← Np, Bg]; exact h0
  simp [h0, this, Qbx]
theorem Qb2 (tm : List AV) (hp : List AObj) (k : AV → List AObj → α) (esz : Nat) (x : Opd) (lo hi : Option Opd) : Q7t E tm hp k esz x lo hi = fin E hp k (Qgs esz (Q4 tm x) (lo.map (Q4 tm)) (hi.map (Q4 tm))) := by
 simp only [Qgs, Q7t, Qo, Qcl, Q80, Xs]
 cases Q4 tm x <;> try rfl
 ·rename_i v; cases v <;> try rfl
  rename_i es s;simp only []
  cases Q3v 0 (lo.map (Q4 tm)) <;> try rfl
  rename_i l;simp only []
  cases Q3v s.length (hi.map (Q4 tm)) <;> try rfl
  rename_i h
  by_cases h0 : es = esz <;> by_cases h1 : l ≤ h <;> by_cases h2 : h ≤ s.length <;> simp [h0, h1, h2, fin, Qe, Xu]
 ·rename_i es a off s;simp only []
  cases Q3v 0 (lo.map (Q4 tm)) <;> try rfl
  rename_i l;simp only []
  cases Q3v s (hi.map (Q4 tm)) <;> try rfl
  rename_i h
  by_cases h0 : es = esz <;> by_cases h1 : l ≤ h <;> by_cases h2 : h ≤ s <;> simp [h0, h1, h2, fin, Qe, Xu]

theorem Q96 (tm : List AV) (hp : List AObj) (k : AV → List AObj → α) (c : COp) (hc : c.isCall = false) :
  V6 E tm hp k c = fin E hp k (Qu E.glob tm hp hp.length c) := by
 cases c with
 | call f args => cases hc
 | callv f args => cases hc
 | move x => simp only [V6, Qu, Qbm, Qo]; rfl
 | pick c a b =>
  simp only [V6, Qu, Qmb, Qo, Jc]
  cases Q4 tm c <;> try rfl
  rename_i v; cases v <;> try rfl
  rename_i b; cases b <;> rfl
 | alloc z => simp only [V6, Qu, Qgh, Xh, Q2q, Qce, Gp]
 | box x =>
  simp only [V6, Qu, Qoo, Qo, Q9g, Q2q, Qjw, Qce, Gp]
  cases (Q4 tm x).cells? <;> rfl
 | build z ps =>
  simp only [V6, Qu, Qg8, Xh, Qc8, Vx];cases Q26 tm (z.map AV.p) ps <;> rfl
 | buildSlice z len esz ps =>
  simp only [V6, Qu, Q5h, Xh, Qc8, Q2q, Qjw, Qce, Gp];cases Q26 tm ((List.replicate len z).flatten.map AV.p) ps <;> rfl
 | load n agg x =>
  simp only [V6, Qu, Qkp, Qo, Q4w, Q08, J5, Vx]
  cases Un E.glob hp (Q4 tm x) with
  | none => rfl
  | some cs =>
   simp only []
   cases Q00 n cs with
   | none => rfl
   | some cs => simp only []; cases sOf agg cs <;> rfl
 | store n x y =>
  simp only [V6, Qu, Qhw, Qo, J8, Q9g, Xs, Q3x, Q3l]
  cases Q4 tm x <;> try rfl
  rename_i a off;simp only []
  cases hp[a]? with
  | none => rfl
  | some o =>
   cases o <;> try rfl
   rename_i cs;simp only []
   cases (Q4 tm y).cells? with
   | none => rfl
   | some v =>
    simp only []
    by_cases h1 : v.length = n <;> by_cases h2 : off + n ≤ cs.length <;> simp [h1, h2, fin, Q3d]
 | nilCheck x =>
  simp only [V6, Qu, Q8s, Qo]
  cases Q4 tm x <;> try rfl
  ·rename_i v; cases v <;> try rfl
   rename_i fn a b; cases fn <;> rfl
  rename_i fn a b; cases fn <;> rfl
 | ari op x y =>
  simp only [V6, Qu, Qoa, Qo]
  cases Q4 tm x <;> try rfl
  rename_i v
  cases v <;> try rfl
  ·simp only []
   cases Q4 tm y <;> try rfl
   rename_i v
   cases v <;> try rfl
   simp only [Qqq, Xs];rename_i i x j y;cases Qax op i j
   ·rfl
   simp only [if_true, Vx];cases Qp9 op i x y <;> rfl
  simp only []
  cases Q4 tm y <;> try rfl
  rename_i v
  cases v <;> try rfl
  cases op <;> try rfl
  simp only [Xs];rename_i s t
  by_cases h : s.length + t.length ≤ 4611686018427387904 <;> simp [h, fin, Qe, Xu]
 | cmp op x y =>
  simp only [V6, Qu, Qoc, Qo, Vx, E.cmp.2, E.scmp.2]
  cases Q4 tm x <;> try rfl
  rename_i v
  cases v <;> try rfl
  ·simp only []
   cases Q4 tm y <;> try rfl
   rename_i v
   cases v <;> try rfl
   rename_i i x j y;simp only [Xs, Qsr];cases i == j <;> rfl
  simp only []
  cases Q4 tm y <;> try rfl
  rename_i v;cases v <;> rfl
 | eqB neg x y =>
  simp only [V6, Qu, Qol, Qo]
  cases Q4 tm x <;> try rfl
  rename_i v
  cases v <;> try rfl
  simp only []
  cases Q4 tm y <;> try rfl
  rename_i v
  cases v <;> try rfl
  cases neg <;> rfl
 | eqP neg x y =>
  simp only [V6, Qu, Qou, Qo]
  cases Q4 tm x <;> try rfl
  ·rename_i v
   cases v <;> try rfl
   simp only []
   cases Q4 tm y <;> try rfl
   rename_i v;cases v <;> rfl
  simp only []
  cases Q4 tm y <;> try rfl
  rename_i v;cases v <;> rfl
 | eqAgg neg kinds x y =>
  simp only [V6, Qu, Qga, Qo, Qle]
  cases (Q4 tm x).aggs? <;> try rfl
  simp only []
  cases (Q4 tm y).aggs? <;> try rfl
  simp only [Qap, Vx, Jc];rename_i cs ds;cases Y7 kinds cs ds <;> rfl
 | not x =>
  simp only [V6, Qu, Qop, Qo]; cases Q4 tm x <;> try rfl
  rename_i v; cases v <;> rfl
 | neg x =>
  simp only [V6, Qu, Qoh, Qo]; cases Q4 tm x <;> try rfl
  rename_i v; cases v <;> rfl
 | conv i x =>
  simp only [V6, Qu, Qkh, Qo]; cases Q4 tm x <;> try rfl
  rename_i v; cases v <;> rfl
 | bytesOf x =>
  simp only [V6, Qu, Qaw, Qo]; cases Q4 tm x <;> try rfl
  rename_i v; cases v <;> try rfl
  simp only [Xh, Q2q, fin, Gp]
 | strOf x =>
  simp only [V6, Qu, Qgg, Qo, J8]
  cases Q4 tm x <;> try rfl
  ·rename_i v; cases v <;> rfl
  rename_i es a off len;simp only []
  cases hp[a]? with
  | none => rfl
  | some o =>
   cases o <;> try rfl
   simp only [J1, Q08, Q8z, Vx];rename_i cs
   cases Q00 len (cs.drop off) with
   | none => rfl
   | some cs => simp only []; cases Qhg cs <;> rfl
 | makeFunc fn a b => simp only [V6, Qu, Q9i, Uk]; rfl
 | makeMap => simp only [V6, Qu, Qba, Q2q, fin, Gp]
 | bad => rfl
 | sliceZ x =>
  simp only [V6, Qu, Qdx, Qo]
  cases Q4 tm x <;> try rfl
  rename_i v;cases v <;> rfl
 | eqN neg x =>
  simp only [V6, Qu, Qob, Qo]
  cases Q4 tm x <;> try rfl
  ·rename_i v
   cases v <;> try rfl
   ·cases neg <;> rfl
   rename_i es rows;simp only [Xs];cases rows.isEmpty <;> rfl
  rename_i es b off len;simp only [Xs]
  by_cases h : 0 < len <;> simp [h, fin, Qe, Xu, Nat.blt_eq]
 | extIx x y =>
  simp only [V6, Qu, Qhi, Qo]
  cases Q4 tm x <;> try rfl
  rename_i v
  cases v <;> try (cases Q4 tm y <;> rfl)
  cases Q4 tm y <;> try rfl
  rename_i u
  cases u <;> try rfl
  rename_i s i c;simp only [Xs];cases i == IntKind.u8 <;> rfl
 | rangeS x =>
  simp only [V6, Qu, Qe7, Qo]
  cases Q4 tm x <;> try rfl
  rename_i v
  cases v <;> try rfl
  simp only [Q2q, fin, Gp]
 | nextS x =>
  simp only [V6, Qu, Qhj, Qo, J8]
  cases Q4 tm x <;> try rfl
  rename_i b o;simp only []
  cases hp[b]? with
  | none => rfl
  | some ob =>
   cases ob <;> try rfl
   rename_i s pos;simp only [Xs, Q3l, Jc]
   by_cases h0 : o = 0
   ·subst h0
    by_cases hl : pos < s.length
    ·simp [hl, fin, Q3d, Nat.blt_eq]
    simp [hl, fin, Qe, Xu, Nat.blt_eq]
   simp [h0, fin]
 | runeStr x =>
  simp only [V6, Qu, Qas, Qo]
  cases Q4 tm x <;> try rfl
  rename_i v;cases v <;> rfl
 | extCt x y =>
  simp only [V6, Qu, Qho, Qo]
  cases Q4 tm x <;> try rfl
  rename_i v
  cases v <;> try (cases Q4 tm y <;> rfl)
  cases Q4 tm y <;> try rfl
  rename_i u
  cases u <;> try rfl
  rename_i s i c;simp only [Xs];cases i == IntKind.u8 <;> rfl
 | mkIface t x => simp only [V6, Qu, Qag, Qo]; rfl
 | asserT t z agg ok x =>
  simp only [V6, Qu, Qdq, Qo, Jc, Xs, Xh, J5]
  have key : ∀ (u : Nat) (v : AV), (if Nat.beq u t = true then if ok = true then k (.tuple [v, .p (.bool true)]) hp else k v hp else if ok = true then (match sOf agg (z.map .p) with
     | some z => k (.tuple [z, .p (.bool false)]) hp
     | none => E.fail) else E.fail) = fin E hp k (if u = t then Qe (if ok then .tuple [v, .p (.bool true)] else v) else if ok = true then (sOf agg (z.map .p)).bind fun z => Qe (.tuple [z, .p (.bool false)]) else none) := by
   intro u v
   by_cases hu : u = t
   ·subst hu; cases ok <;> simp [fin, Qe, Xu]
   have : Nat.beq u t = false := by rw [← Np, Bg]; exact hu
   simp only [this, hu, if_false, Lw];cases ok
   ·rfl
   simp only [if_true, Vx]; cases sOf agg (z.map .p) <;> rfl
  cases Q4 tm x <;> try rfl
  ·rename_i v
   cases v <;> try rfl
   exact key _ _
  exact key _ _
 | eqI neg x =>
  simp only [V6, Qu, Qof, Qo]
  cases Q4 tm x <;> try rfl
  rename_i v
  cases v <;> first | rfl | (cases neg <;> rfl)
 | eqF neg x =>
  simp only [V6, Qu, Qp2, Qo]
  cases Q4 tm x <;> try rfl
  rename_i v
  cases v <;> first | rfl | (cases neg <;> rfl)
 | del kk m ke =>
  simp only [V6, Qu, Qo9, Qo, J8]
  cases Q4 tm m <;> try rfl
  rename_i r;cases Q4 tm ke
  case p kv =>
   simp only []
   cases h : hp[r]? with
   | none => rfl
   | some o =>
    cases o <;> try rfl
    rename_i es;simp only [Q0f, Xs]
    cases Ga kk kv with
    | false => rfl
    | true =>
     simp only [if_true, Bh, if_false]
     cases Vz kv 0 es with
     | none => rfl
     | some r => cases r <;> simp [Q3l, fin, Q3d, Qe, Xu]
  all_goals
   simp only []
   cases h : hp[r]? with
   | none => rfl
   | some o => cases o <;> rfl
 | insert kk m ke v =>
  simp only [V6, Qu, Qei, Qo, J8]
  cases Q4 tm m <;> try rfl
  rename_i r;cases Q4 tm ke
  case p kv =>
   simp only []
   cases h : hp[r]? with
   | none => rfl
   | some o =>
    cases o <;> try rfl
    rename_i es;simp only [Q0f, Xs]
    cases Ga kk kv with
    | false => rfl
    | true =>
     simp only [if_true, Bh, if_false]
     cases Vz kv 0 es with
     | none => rfl
     | some r => cases r <;> simp [Q3l, J7, fin, Q3d]
  all_goals
   simp only []
   cases h : hp[r]? with
   | none => rfl
   | some o => cases o <;> rfl
 | lookup kk z agg ok m ke =>
  simp only [V6, Qu, Qe9, Qo, J8];cases Q4 tm m
  case map r =>
   cases Q4 tm ke
   case p kv =>
    simp only []
    cases h : hp[r]? with
    | none => rfl
    | some o =>
     cases o <;> try rfl
     rename_i es;simp only [Q0f, Xs]
     cases Ga kk kv with
     | false => rfl
     | true =>
      simp only [if_true, Bh, if_false]
      cases Vz kv 0 es with
      | none => rfl
      | some r =>
       cases r with
       | none =>
        simp only [Xh, J5, Vx];cases sOf agg (z.map AV.p) <;> cases ok <;> rfl
       | some r => cases ok <;> rfl
   all_goals
    simp only []
    cases h : hp[r]? with
    | none => rfl
    | some o => cases o <;> rfl
  case p mv =>
   cases mv <;> try (cases Q4 tm ke <;> rfl)
   rename_i ps
   cases Q4 tm ke <;> try rfl
   rename_i kv;simp only [Xs, Qti]
   cases Ga kk kv with
   | false => rfl
   | true =>
    simp only [if_true, Bh, if_false]
    cases Qcz kv ps with
    | none => rfl
    | some r =>
     cases r with
     | none =>
      simp only [Xh, J5, Vx];cases sOf agg (z.map AV.p) <;> cases ok <;> rfl
     | some r => cases ok <;> rfl
  all_goals (cases Q4 tm ke <;> rfl)
 | makeSlice z bytes l c =>
  simp only [V6, Qu, Q7c, Qo]
  cases Q4 tm l <;> try rfl
  rename_i v; cases v <;> try rfl
  simp only []
  cases Q4 tm c <;> try rfl
  rename_i v; cases v <;> try rfl
  simp only [Xs, Xh, Q2q];rename_i l _ c
  by_cases h1 : 0 ≤ l <;> by_cases h2 : l ≤ c <;> by_cases h3 : c * bytes ≤ 1099511627776 <;> simp [h1, h2, h3, fin, Gp]
 | sliceStr x lo hi =>
  simp only [V6, Qu, Q90, Qo, Qcl, Q80, Xs]
  cases Q4 tm x <;> try rfl
  rename_i v; cases v <;> try rfl
  rename_i s;simp only []
  cases Q3v 0 (lo.map (Q4 tm)) <;> try rfl
  rename_i l;simp only []
  cases Q3v s.length (hi.map (Q4 tm)) <;> try rfl
  rename_i h
  by_cases h1 : l ≤ h <;> by_cases h2 : h ≤ s.length <;> simp [h1, h2, fin, Qe, Xu]
 | slice esz x lo hi => exact Qb2 E tm hp k esz x lo hi
 | slice3 esz x lo hi mx =>
  simp only [V6, Qu, Qeh, Qcl, Q80, Xs, Qb2]
  cases Q3v 0 (hi.map (Q4 tm)) <;> try rfl
  rename_i h;simp only []
  cases Q3v 0 (mx.map (Q4 tm)) <;> try rfl
  rename_i m
  by_cases h0 : h = m <;> simp [h0, fin]
 | sliceArr n esz x lo hi =>
  simp only [V6, Qu, Q8f, Qo, Qcl, Q80, Xs, J8]
  cases Q4 tm x <;> try rfl
  rename_i a off;simp only []
  cases hp[a]? with
  | none => rfl
  | some o =>
   cases o <;> try rfl
   rename_i cs;simp only []
   cases Q3v 0 (lo.map (Q4 tm)) <;> try rfl
   rename_i l;simp only []
   cases Q3v n (hi.map (Q4 tm)) <;> try rfl
   rename_i h
   by_cases h0 : off + n * esz ≤ cs.length <;> by_cases h1 : l ≤ h <;> by_cases h2 : h ≤ n <;> simp [h0, h1, h2, fin, Qe, Xu]
 | fieldAddr x off => simp only [V6, Qu, Q7a, Qo, J1]; cases Q4 tm x <;> rfl
 | field x off n agg =>
  simp only [V6, Qu, Qh3, Qo, Qle]
  cases (Q4 tm x).aggs? <;> try rfl
  simp only [J1, Q08, J5, Vx];rename_i cs
  cases Q00 n (cs.drop off) with
  | none => rfl
  | some cs => simp only []; cases sOf agg cs <;> rfl
 | indexAddr esz x i =>
  simp only [V6, Qu, Q7f, Qo, Xs, Qn5]
  cases Q4 tm x <;> try rfl
  ·rename_i v; cases v <;> try rfl
   simp only []
   cases Q4 tm i <;> try rfl
   rename_i v; cases v <;> try rfl
   rename_i es rows _ n
   by_cases h0 : es = esz <;> cases hi : idx rows n <;> simp [h0, hi, fin, Qe, Xu]
  simp only []
  cases Q4 tm i <;> try rfl
  rename_i v; cases v <;> try rfl
  rename_i es a off len _ n
  by_cases h1 : 0 ≤ n <;> by_cases h2 : n < len <;> simp [h1, h2, fin, Qe, Xu]
 | indexArr len esz x i =>
  simp only [V6, Qu, Q9k, Qo, Xs]
  cases Q4 tm x <;> try rfl
  all_goals
   simp only []
   cases Q4 tm i <;> try rfl
   rename_i v; cases v <;> try rfl
   rename_i n
   by_cases h1 : 0 ≤ n <;> by_cases h2 : n < len <;> simp [h1, h2, fin, Qe, Xu]
 | indexStr x i =>
  simp only [V6, Qu, Q91, Qo, Qn5]
  cases Q4 tm x <;> try rfl
  rename_i v; cases v <;> try rfl
  simp only []
  cases Q4 tm i <;> try rfl
  rename_i v; cases v <;> try rfl
  simp only [Vx];rename_i s _ n;cases idx s n <;> rfl
 | extract x i =>
  simp only [V6, Qu, Q42, Qo]
  cases Q4 tm x <;> try rfl
  ·rename_i v; cases v <;> try rfl
   rename_i vs;simp only [Vx];cases vs[i]? <;> rfl
  rename_i vs;simp only [Vx];cases vs[i]? <;> rfl
 | lenStr x =>
  simp only [V6, Qu, Qd4, Qo]
  cases Q4 tm x <;> try rfl
  rename_i v; cases v <;> rfl
 | lenSl x =>
  simp only [V6, Qu, Qhv, Qo]
  cases Q4 tm x <;> try rfl
  rename_i v; cases v <;> rfl
 | lenMap x =>
  simp only [V6, Qu, Qd8, Qo, J8]
  cases Q4 tm x <;> try rfl
  ·rename_i v; cases v <;> rfl
  rename_i r;simp only []
  cases hp[r]? with
  | none => rfl
  | some o => cases o <;> rfl
 | append esz bytes s x => simp only [V6, Qu]; exact Q7e ..
 | appendT esz bytes s x =>
  simp only [V6, Qu, Qb0, Qo, Q7e, Qfo]
  cases hs : Q4 tm s <;> try rfl
  rename_i es a off len;simp only [J8, Xs, Q65, Q3l]
  cases hp[a]? with
  | none => rfl
  | some o =>
   cases o <;> try rfl
   rename_i cs;simp only []
   by_cases h0 : off + len * esz ≤ cs.length
   ·have h1 : Nat.ble (off + len * esz) cs.length = true := by simpa using h0
    rw [h1, if_pos h0, if_pos rfl];rw [Mu]
    cases hq : Q9x (hp.set a (.cells (cs.take (off + len * esz)))) hp.length esz bytes (.slice es a off len) (Q4 tm x) with
    | none => rfl
    | some q =>
     obtain ⟨v, e⟩ := q;show k v (e.apply (hp.set a (.cells (cs.take (off + len * esz)))) (hp.set a (.cells (cs.take (off + len * esz)))).length) = k v ((e.pre a (.cells (cs.take (off + len * esz)))).apply hp hp.length);rw [Qda (Qfa hq), Mu]
   have h1 : Nat.ble (off + len * esz) cs.length = false := by rw [← Np, Lu]; exact h0
   rw [h1, if_neg h0]; rfl
 | copyB d s =>
  have hc : ∀ new, (match Q4 tm d with
    | .p .nilSlice => k (.p (.int .i64 0)) hp
    | .slice es a off len => Qea E hp a fun
     | .cells cs => chk E (Nat.beq es 1 && (Nat.ble (off + len) cs.length && Nat.ble 1 len))
      (Qfx len new cs off fun n cs => Qjk hp a (.cells cs) fun hp => k (.p (.int .i64 n)) hp)
     | _ => E.fail
    | _ => E.fail) = fin E hp k (Qff hp (Q4 tm d) new) := fun new => by
   simp only [J8, Xs, Qfx, Q65, Qbh, Q3x, Q3l, Qff]
   cases Q4 tm d <;> try rfl
   ·rename_i v; cases v <;> rfl
   rename_i es a off len;simp only []
   cases hp[a]? with
   | none => rfl
   | some o =>
    cases o <;> try rfl
    rename_i cs;simp only []
    by_cases h1 : es = 1 <;> by_cases h2 : off + len ≤ cs.length <;> by_cases h3 : 1 ≤ len <;> simp [h1, h2, h3, fin, Q3d] <;> omega
  simp only [V6, Qu, Qgu, Qo, Qqh]
  cases Qjy hp (Q4 tm s) with
  | none => rfl
  | some new => exact hc new
 | max x y =>
  simp only [V6, Qu, Qoz, Qo, Jc]
  cases Q4 tm x <;> try rfl
  rename_i v; cases v <;> try rfl
  simp only []
  cases Q4 tm y <;> try rfl
  rename_i v; cases v <;> try rfl
  simp [fin, Qe, Xu]
 | min x y =>
  simp only [V6, Qu, Qog, Qo, Jc]
  cases Q4 tm x <;> try rfl
  rename_i v; cases v <;> try rfl
  simp only []
  cases Q4 tm y <;> try rfl
  rename_i v; cases v <;> try rfl
  simp [fin, Qe, Xu]
end
end
end Go.Av
