/- Part of the proof of VerdictNames: for every input the law returns true; no condition. -/
import Derived.Test.YtkoplndinjflaaaGreatDoorAvStep
namespace Go.Av
noncomputable section
universe u
section
variable {α : Type u} (E : Env α)
def fin (E : Env α) (hp : List AObj) (k : AV → List AObj → α) : Option (AV × Eff) → α
 | some (v, e) => k v (e.apply hp hp.length)
 | none => E.fail
theorem Q00 (hp : List AObj) (k : AV → List AObj → α) : fin E hp k none = E.fail := rfl
theorem Q01 (hp : List AObj) (k : AV → List AObj → α) (v : AV) (e : Eff) : fin E hp k (some (v, e)) = k v (e.apply hp hp.length) := rfl
theorem Z3 {β : Type} (hp : List AObj) (k : AV → List AObj → α) (o : Option β) (f : β → Option (AV × Eff)) : fin E hp k (o.bind f) = (match o with
  | some b => fin E hp k (f b)
  | none => E.fail) := by cases o <;> rfl
theorem Q6c {β : Type} (hp : List AObj) (k : AV → List AObj → α) (o : Option β) (f : β → AV × Eff) : fin E hp k (o.map f) = (match o with
  | some b => fin E hp k (some (f b))
  | none => E.fail) := by cases o <;> rfl
theorem Zt (hp : List AObj) (o : AObj) : ({ new := some o } : Eff).apply hp hp.length = hp ++ [o] := by simp [Eff.apply, plc]
theorem Xo (hp : List AObj) (n : Nat) (a : Nat) (o : AObj) : ({ set := some (a, o) } : Eff).apply hp n = hp.set a o := by simp [Eff.apply]
theorem Q50 (hp : List AObj) (a : Nat) (o o' : AObj) : ({ set := some (a, o), new := some o' } : Eff).apply hp hp.length = hp.set a o ++ [o'] := by simp [Eff.apply, plc]
theorem Ql (hp : List AObj) (n : Nat) : ({} : Eff).apply hp n = hp := rfl

theorem Q91 (hp : List AObj) (esz bytes : Nat) (s : AV) (new : List AV) (n : Nat) (k : AV → List AObj → α) :
  Q7s E hp esz bytes s new n k = fin E hp k (G7 hp hp.length esz bytes s new n) := by
 unfold Q7s G7
 by_cases hn : n = 0
 ·subst hn;simp only [ifB, if_true]
  cases s with
  | p v => cases v <;> rfl
  | _ => rfl
 ·have : Nat.beq n 0 = false := by cases n <;> first | rfl | simp_all
  simp only [this, ifB, hn, if_false]
  cases s with
  | p v =>
   cases v <;> (try rfl) <;>
   (by_cases h3 : (n + 4096) * bytes ≤ 17592186044416 <;> simp [Qk, X9, h3, fin, Zt])
  | slice es a off len =>
   simp only [Zb]
   cases h : hp[a]? with
   | none => rfl
   | some o =>
    cases o <;> simp only [Qk, Y3, Zn, Xn, X9, fin] <;> (try rfl)
    by_cases h1 : es = esz <;> rename_i cs <;> by_cases h2 : off + len * esz = cs.length <;> by_cases h3 : (len + n + 4096) * bytes ≤ 17592186044416 <;> simp [h1, h2, h3, Q50, List.length_set]
  | _ => rfl

theorem Q95 (hp : List AObj) (K : List AV → α) (v : AV) : Qb1 E hp K v = (match Q5t hp v with
  | some new => K new
  | none => E.fail) := by
 unfold Qb1 Q5t
 cases v <;> try rfl
 ·rename_i p; cases p <;> try rfl
  ·simp [Qn]
  rename_i es rows;simp only [Qk, Qn]
  by_cases h0 : es = 1
  ·simp [h0]
  have : Nat.beq es 1 = false := by rw [← Mp, Nr]; exact h0
  simp [h0, this]
 rename_i es b off n;simp only [Zb, Y3, Qk, X0]
 cases hp[b]? with
 | none => rfl
 | some o =>
  cases o <;> try rfl
  rename_i cs
  by_cases h0 : es = 1
  ·simp only [h0, if_true, Nat.beq_refl];cases Y9 n (cs.drop off) <;> rfl
  have : Nat.beq es 1 = false := by rw [← Mp, Nr]; exact h0
  simp [h0, this]
theorem U2 (tm : List AV) (hp : List AObj) (k : AV → List AObj → α) (esz bytes : Nat) (s x : Opd) : Xi E tm hp k esz bytes s x = fin E hp k (Jk hp hp.length esz bytes (Q2 tm s) (Q2 tm x)) := by
 simp only [Jk, Xi, Q8, Zb, Qk, Q91, Qn, Y3, X0]
 cases Q2 tm x <;> try rfl
 ·rename_i v; cases v <;> try rfl
  ·rename_i b
   by_cases h0 : esz = 1
   ·simp [h0]
   have : Nat.beq esz 1 = false := by rw [← Mp, Nr]; exact h0
   simp [h0, this, Q00]
  rename_i es rows
  by_cases h0 : es = esz
  ·simp [h0]
  have : Nat.beq es esz = false := by rw [← Mp, Nr]; exact h0
  simp [h0, this, Q00]
 rename_i es b off n;simp only []
 cases hp[b]? with
 | none => rfl
 | some o =>
  cases o <;> try rfl
  rename_i cs
  by_cases h0 : es = esz
  ·simp only [h0, if_true, Z3, Nat.beq_refl];cases Y9 (n * esz) (cs.drop off) <;> rfl
  have : Nat.beq es esz = false := by rw [← Mp, Nr]; exact h0
  simp [h0, this, Q00]
theorem G0 (tm : List AV) (hp : List AObj) (k : AV → List AObj → α) (esz : Nat) (x : Opd) (lo hi : Option Opd) : Uc E tm hp k esz x lo hi = fin E hp k (Q3i esz (Q2 tm x) (lo.map (Q2 tm)) (hi.map (Q2 tm))) := by
 simp only [Q3i, Uc, Q8, Q0j, Ub, Qk]
 cases Q2 tm x <;> try rfl
 ·rename_i v; cases v <;> try rfl
  rename_i es s;simp only []
  cases Xr 0 (lo.map (Q2 tm)) <;> try rfl
  rename_i l;simp only []
  cases Xr s.length (hi.map (Q2 tm)) <;> try rfl
  rename_i h
  by_cases h0 : es = esz <;> by_cases h1 : l ≤ h <;> by_cases h2 : h ≤ s.length <;> simp [h0, h1, h2, fin, Q6, Ql]
 ·rename_i es a off s;simp only []
  cases Xr 0 (lo.map (Q2 tm)) <;> try rfl
  rename_i l;simp only []
  cases Xr s (hi.map (Q2 tm)) <;> try rfl
  rename_i h
  by_cases h0 : es = esz <;> by_cases h1 : l ≤ h <;> by_cases h2 : h ≤ s <;> simp [h0, h1, h2, fin, Q6, Ql]

theorem Um (tm : List AV) (hp : List AObj) (k : AV → List AObj → α) (c : COp) (hc : c.isCall = false) :
  Qx E tm hp k c = fin E hp k (Qa E.glob tm hp hp.length c) := by
 cases c with
 | call f args => cases hc
 | callv f args => cases hc
 | move x => simp only [Qx, Qa, Q09, Q8]; rfl
 | pick c a b =>
  simp only [Qx, Qa, Q5m, Q8, Zf]
  cases Q2 tm c <;> try rfl
  rename_i v; cases v <;> try rfl
  rename_i b; cases b <;> rfl
 | alloc z => simp only [Qx, Qa, Q3x, Qn, X9, Q01, Zt]
 | box x =>
  simp only [Qx, Qa, Q7w, Q8, Ug, X9, Q6c, Q01, Zt]
  cases (Q2 tm x).cells? <;> rfl
 | build z ps =>
  simp only [Qx, Qa, Q3l, Qn, Q0l, Z3];cases X8 tm (z.map AV.p) ps <;> rfl
 | buildSlice z len esz ps =>
  simp only [Qx, Qa, V4, Qn, Q0l, X9, Q6c, Q01, Zt];cases X8 tm ((List.replicate len z).flatten.map AV.p) ps <;> rfl
 | load n agg x =>
  simp only [Qx, Qa, Q5l, Q8, Wf, X0, Zc, Z3]
  cases Za E.glob hp (Q2 tm x) with
  | none => rfl
  | some cs =>
   simp only []
   cases Y9 n cs with
   | none => rfl
   | some cs => simp only []; cases sOf agg cs <;> rfl
 | store n x y =>
  simp only [Qx, Qa, Q3y, Q8, Zb, Ug, Qk, Vj, Xn]
  cases Q2 tm x <;> try rfl
  rename_i a off;simp only []
  cases hp[a]? with
  | none => rfl
  | some o =>
   cases o <;> try rfl
   rename_i cs;simp only []
   cases (Q2 tm y).cells? with
   | none => rfl
   | some v =>
    simp only []
    by_cases h1 : v.length = n <;> by_cases h2 : off + n ≤ cs.length <;> simp [h1, h2, fin, Xo]
 | nilCheck x =>
  simp only [Qx, Qa, Ue, Q8]
  cases Q2 tm x <;> try rfl
  ·rename_i v; cases v <;> try rfl
   rename_i fn a b; cases fn <;> rfl
  rename_i fn a b; cases fn <;> rfl
 | ari op x y =>
  simp only [Qx, Qa, Q80, Q8]
  cases Q2 tm x <;> try rfl
  rename_i v
  cases v <;> try rfl
  ·simp only []
   cases Q2 tm y <;> try rfl
   rename_i v
   cases v <;> try rfl
   simp only [Q9c, Qk];rename_i i x j y;cases Gp op i j
   ·rfl
   simp only [if_true, Z3];cases Q8i op i x y <;> rfl
  simp only []
  cases Q2 tm y <;> try rfl
  rename_i v
  cases v <;> try rfl
  cases op <;> try rfl
  simp only [Qk];rename_i s t
  by_cases h : s.length + t.length ≤ 4611686018427387904 <;> simp [h, fin, Q6, Ql]
 | cmp op x y =>
  simp only [Qx, Qa, Q87, Q8, Z3, E.cmp.2, E.scmp.2]
  cases Q2 tm x <;> try rfl
  rename_i v
  cases v <;> try rfl
  ·simp only []
   cases Q2 tm y <;> try rfl
   rename_i v
   cases v <;> try rfl
   rename_i i x j y;simp only [Qk, Q9r];cases i == j <;> rfl
  simp only []
  cases Q2 tm y <;> try rfl
  rename_i v;cases v <;> rfl
 | eqB neg x y =>
  simp only [Qx, Qa, Q81, Q8]
  cases Q2 tm x <;> try rfl
  rename_i v
  cases v <;> try rfl
  simp only []
  cases Q2 tm y <;> try rfl
  rename_i v
  cases v <;> try rfl
  cases neg <;> rfl
 | eqP neg x y =>
  simp only [Qx, Qa, Q7r, Q8]
  cases Q2 tm x <;> try rfl
  ·rename_i v
   cases v <;> try rfl
   simp only []
   cases Q2 tm y <;> try rfl
   rename_i v;cases v <;> rfl
  simp only []
  cases Q2 tm y <;> try rfl
  rename_i v;cases v <;> rfl
 | eqAgg neg kinds x y =>
  simp only [Qx, Qa, Q3v, Q8, Q5p]
  cases (Q2 tm x).aggs? <;> try rfl
  simp only []
  cases (Q2 tm y).aggs? <;> try rfl
  simp only [Q4t, Z3, Zf];rename_i cs ds;cases Qe kinds cs ds <;> rfl
 | not x =>
  simp only [Qx, Qa, Q7v, Q8]; cases Q2 tm x <;> try rfl
  rename_i v; cases v <;> rfl
 | neg x =>
  simp only [Qx, Qa, Q82, Q8]; cases Q2 tm x <;> try rfl
  rename_i v; cases v <;> rfl
 | conv i x =>
  simp only [Qx, Qa, Q5o, Q8]; cases Q2 tm x <;> try rfl
  rename_i v; cases v <;> rfl
 | bytesOf x =>
  simp only [Qx, Qa, Gj, Q8]; cases Q2 tm x <;> try rfl
  rename_i v; cases v <;> try rfl
  simp only [Qn, X9, fin, Zt]
 | strOf x =>
  simp only [Qx, Qa, Q3q, Q8, Zb]
  cases Q2 tm x <;> try rfl
  ·rename_i v; cases v <;> rfl
  rename_i es a off len;simp only []
  cases hp[a]? with
  | none => rfl
  | some o =>
   cases o <;> try rfl
   simp only [Y3, X0, Q2b, Z3];rename_i cs
   cases Y9 len (cs.drop off) with
   | none => rfl
   | some cs => simp only []; cases Q60 cs <;> rfl
 | makeFunc fn a b => simp only [Qx, Qa, J4, Z7]; rfl
 | makeMap => simp only [Qx, Qa, Ga, X9, fin, Zt]
 | bad => rfl
 | sliceZ x =>
  simp only [Qx, Qa, Q1q, Q8]
  cases Q2 tm x <;> try rfl
  rename_i v;cases v <;> rfl
 | eqN neg x =>
  simp only [Qx, Qa, Q88, Q8]
  cases Q2 tm x <;> try rfl
  ·rename_i v
   cases v <;> try rfl
   ·cases neg <;> rfl
   rename_i es rows;simp only [Qk];cases rows.isEmpty <;> rfl
  rename_i es b off len;simp only [Qk]
  by_cases h : 0 < len <;> simp [h, fin, Q6, Ql, Nat.blt_eq]
 | extIx x y =>
  simp only [Qx, Qa, Q3n, Q8]
  cases Q2 tm x <;> try rfl
  rename_i v
  cases v <;> try (cases Q2 tm y <;> rfl)
  cases Q2 tm y <;> try rfl
  rename_i u
  cases u <;> try rfl
  rename_i s i c;simp only [Qk];cases i == IntKind.u8 <;> rfl
 | rangeS x =>
  simp only [Qx, Qa, Q1k, Q8]
  cases Q2 tm x <;> try rfl
  rename_i v
  cases v <;> try rfl
  simp only [X9, fin, Zt]
 | nextS x =>
  simp only [Qx, Qa, Q3t, Q8, Zb]
  cases Q2 tm x <;> try rfl
  rename_i b o;simp only []
  cases hp[b]? with
  | none => rfl
  | some ob =>
   cases ob <;> try rfl
   rename_i s pos;simp only [Qk, Xn, Zf]
   by_cases h0 : o = 0
   ·subst h0
    by_cases hl : pos < s.length
    ·simp [hl, fin, Xo, Nat.blt_eq]
    simp [hl, fin, Q6, Ql, Nat.blt_eq]
   simp [h0, fin]
 | runeStr x =>
  simp only [Qx, Qa, G6, Q8]
  cases Q2 tm x <;> try rfl
  rename_i v;cases v <;> rfl
 | extCt x y =>
  simp only [Qx, Qa, Q36, Q8]
  cases Q2 tm x <;> try rfl
  rename_i v
  cases v <;> try (cases Q2 tm y <;> rfl)
  cases Q2 tm y <;> try rfl
  rename_i u
  cases u <;> try rfl
  rename_i s i c;simp only [Qk];cases i == IntKind.u8 <;> rfl
 | mkIface t x => simp only [Qx, Qa, Jy, Q8]; rfl
 | asserT t z agg ok x =>
  simp only [Qx, Qa, Q1c, Q8, Zf, Qk, Qn, Zc]
  have key : ∀ (u : Nat) (v : AV), (if Nat.beq u t = true then if ok = true then k (.tuple [v, .p (.bool true)]) hp else k v hp else if ok = true then (match sOf agg (z.map .p) with
     | some z => k (.tuple [z, .p (.bool false)]) hp
     | none => E.fail) else E.fail) = fin E hp k (if u = t then Q6 (if ok then .tuple [v, .p (.bool true)] else v) else if ok = true then (sOf agg (z.map .p)).bind fun z => Q6 (.tuple [z, .p (.bool false)]) else none) := by
   intro u v
   by_cases hu : u = t
   ·subst hu; cases ok <;> simp [fin, Q6, Ql]
   have : Nat.beq u t = false := by rw [← Mp, Nr]; exact hu
   simp only [this, hu, if_false, Lq];cases ok
   ·rfl
   simp only [if_true, Z3]; cases sOf agg (z.map .p) <;> rfl
  cases Q2 tm x <;> try rfl
  ·rename_i v
   cases v <;> try rfl
   exact key _ _
  exact key _ _
 | eqI neg x =>
  simp only [Qx, Qa, Q83, Q8]
  cases Q2 tm x <;> try rfl
  rename_i v
  cases v <;> first | rfl | (cases neg <;> rfl)
 | eqF neg x =>
  simp only [Qx, Qa, Q7z, Q8]
  cases Q2 tm x <;> try rfl
  rename_i v
  cases v <;> first | rfl | (cases neg <;> rfl)
 | del kk m ke =>
  simp only [Qx, Qa, Q89, Q8, Zb]
  cases Q2 tm m <;> try rfl
  rename_i r;cases Q2 tm ke
  case p kv =>
   simp only []
   cases h : hp[r]? with
   | none => rfl
   | some o =>
    cases o <;> try rfl
    rename_i es;simp only [Xv, Qk]
    cases Zo kk kv with
    | false => rfl
    | true =>
     simp only [if_true, Nl, if_false]
     cases Xc kv 0 es with
     | none => rfl
     | some r => cases r <;> simp [Xn, fin, Xo, Q6, Ql]
  all_goals
   simp only []
   cases h : hp[r]? with
   | none => rfl
   | some o => cases o <;> rfl
 | insert kk m ke v =>
  simp only [Qx, Qa, Q0u, Q8, Zb]
  cases Q2 tm m <;> try rfl
  rename_i r;cases Q2 tm ke
  case p kv =>
   simp only []
   cases h : hp[r]? with
   | none => rfl
   | some o =>
    cases o <;> try rfl
    rename_i es;simp only [Xv, Qk]
    cases Zo kk kv with
    | false => rfl
    | true =>
     simp only [if_true, Nl, if_false]
     cases Xc kv 0 es with
     | none => rfl
     | some r => cases r <;> simp [Xn, Zn, fin, Xo]
  all_goals
   simp only []
   cases h : hp[r]? with
   | none => rfl
   | some o => cases o <;> rfl
 | lookup kk z agg ok m ke =>
  simp only [Qx, Qa, Q0o, Q8, Zb];cases Q2 tm m
  case map r =>
   cases Q2 tm ke
   case p kv =>
    simp only []
    cases h : hp[r]? with
    | none => rfl
    | some o =>
     cases o <;> try rfl
     rename_i es;simp only [Xv, Qk]
     cases Zo kk kv with
     | false => rfl
     | true =>
      simp only [if_true, Nl, if_false]
      cases Xc kv 0 es with
      | none => rfl
      | some r =>
       cases r with
       | none =>
        simp only [Qn, Zc, Z3];cases sOf agg (z.map AV.p) <;> cases ok <;> rfl
       | some r => cases ok <;> rfl
   all_goals
    simp only []
    cases h : hp[r]? with
    | none => rfl
    | some o => cases o <;> rfl
  case p mv =>
   cases mv <;> try (cases Q2 tm ke <;> rfl)
   rename_i ps
   cases Q2 tm ke <;> try rfl
   rename_i kv;simp only [Qk, Qah]
   cases Zo kk kv with
   | false => rfl
   | true =>
    simp only [if_true, Nl, if_false]
    cases Q0r kv ps with
    | none => rfl
    | some r =>
     cases r with
     | none =>
      simp only [Qn, Zc, Z3];cases sOf agg (z.map AV.p) <;> cases ok <;> rfl
     | some r => cases ok <;> rfl
  all_goals (cases Q2 tm ke <;> rfl)
 | makeSlice z bytes l c =>
  simp only [Qx, Qa, Vr, Q8]
  cases Q2 tm l <;> try rfl
  rename_i v; cases v <;> try rfl
  simp only []
  cases Q2 tm c <;> try rfl
  rename_i v; cases v <;> try rfl
  simp only [Qk, Qn, X9];rename_i l _ c
  by_cases h1 : 0 ≤ l <;> by_cases h2 : l ≤ c <;> by_cases h3 : c * bytes ≤ 1099511627776 <;> simp [h1, h2, h3, fin, Zt]
 | sliceStr x lo hi =>
  simp only [Qx, Qa, J0, Q8, Q0j, Ub, Qk]
  cases Q2 tm x <;> try rfl
  rename_i v; cases v <;> try rfl
  rename_i s;simp only []
  cases Xr 0 (lo.map (Q2 tm)) <;> try rfl
  rename_i l;simp only []
  cases Xr s.length (hi.map (Q2 tm)) <;> try rfl
  rename_i h
  by_cases h1 : l ≤ h <;> by_cases h2 : h ≤ s.length <;> simp [h1, h2, fin, Q6, Ql]
 | slice esz x lo hi => exact G0 E tm hp k esz x lo hi
 | slice3 esz x lo hi mx =>
  simp only [Qx, Qa, Q1h, Q0j, Ub, Qk, G0]
  cases Xr 0 (hi.map (Q2 tm)) <;> try rfl
  rename_i h;simp only []
  cases Xr 0 (mx.map (Q2 tm)) <;> try rfl
  rename_i m
  by_cases h0 : h = m <;> simp [h0, fin]
 | sliceArr n esz x lo hi =>
  simp only [Qx, Qa, J8, Q8, Q0j, Ub, Qk, Zb]
  cases Q2 tm x <;> try rfl
  rename_i a off;simp only []
  cases hp[a]? with
  | none => rfl
  | some o =>
   cases o <;> try rfl
   rename_i cs;simp only []
   cases Xr 0 (lo.map (Q2 tm)) <;> try rfl
   rename_i l;simp only []
   cases Xr n (hi.map (Q2 tm)) <;> try rfl
   rename_i h
   by_cases h0 : off + n * esz ≤ cs.length <;> by_cases h1 : l ≤ h <;> by_cases h2 : h ≤ n <;> simp [h0, h1, h2, fin, Q6, Ql]
 | fieldAddr x off => simp only [Qx, Qa, U1, Q8, Y3]; cases Q2 tm x <;> rfl
 | field x off n agg =>
  simp only [Qx, Qa, Q3s, Q8, Q5p]
  cases (Q2 tm x).aggs? <;> try rfl
  simp only [Y3, X0, Zc, Z3];rename_i cs
  cases Y9 n (cs.drop off) with
  | none => rfl
  | some cs => simp only []; cases sOf agg cs <;> rfl
 | indexAddr esz x i =>
  simp only [Qx, Qa, Vq, Q8, Qk, Qat]
  cases Q2 tm x <;> try rfl
  ·rename_i v; cases v <;> try rfl
   simp only []
   cases Q2 tm i <;> try rfl
   rename_i v; cases v <;> try rfl
   rename_i es rows _ n
   by_cases h0 : es = esz <;> cases hi : idx rows n <;> simp [h0, hi, fin, Q6, Ql]
  simp only []
  cases Q2 tm i <;> try rfl
  rename_i v; cases v <;> try rfl
  rename_i es a off len _ n
  by_cases h1 : 0 ≤ n <;> by_cases h2 : n < len <;> simp [h1, h2, fin, Q6, Ql]
 | indexArr len esz x i =>
  simp only [Qx, Qa, J1, Q8, Qk]
  cases Q2 tm x <;> try rfl
  all_goals
   simp only []
   cases Q2 tm i <;> try rfl
   rename_i v; cases v <;> try rfl
   rename_i n
   by_cases h1 : 0 ≤ n <;> by_cases h2 : n < len <;> simp [h1, h2, fin, Q6, Ql]
 | indexStr x i =>
  simp only [Qx, Qa, Jg, Q8, Qat]
  cases Q2 tm x <;> try rfl
  rename_i v; cases v <;> try rfl
  simp only []
  cases Q2 tm i <;> try rfl
  rename_i v; cases v <;> try rfl
  simp only [Z3];rename_i s _ n;cases idx s n <;> rfl
 | extract x i =>
  simp only [Qx, Qa, Xy, Q8]
  cases Q2 tm x <;> try rfl
  ·rename_i v; cases v <;> try rfl
   rename_i vs;simp only [Z3];cases vs[i]? <;> rfl
  rename_i vs;simp only [Z3];cases vs[i]? <;> rfl
 | lenStr x =>
  simp only [Qx, Qa, Q1n, Q8]
  cases Q2 tm x <;> try rfl
  rename_i v; cases v <;> rfl
 | lenSl x =>
  simp only [Qx, Qa, Q37, Q8]
  cases Q2 tm x <;> try rfl
  rename_i v; cases v <;> rfl
 | lenMap x =>
  simp only [Qx, Qa, Q1w, Q8, Zb]
  cases Q2 tm x <;> try rfl
  ·rename_i v; cases v <;> rfl
  rename_i r;simp only []
  cases hp[r]? with
  | none => rfl
  | some o => cases o <;> rfl
 | append esz bytes s x => simp only [Qx, Qa]; exact U2 ..
 | appendT esz bytes s x =>
  simp only [Qx, Qa, Gf, Q8, U2, Q2y]
  cases hs : Q2 tm s <;> try rfl
  rename_i es a off len;simp only [Zb, Qk, V5, Xn]
  cases hp[a]? with
  | none => rfl
  | some o =>
   cases o <;> try rfl
   rename_i cs;simp only []
   by_cases h0 : off + len * esz ≤ cs.length
   ·have h1 : Nat.ble (off + len * esz) cs.length = true := by simpa using h0
    rw [h1, if_pos h0, if_pos rfl];rw [Bp]
    cases hq : Jk (hp.set a (.cells (cs.take (off + len * esz)))) hp.length esz bytes (.slice es a off len) (Q2 tm x) with
    | none => rfl
    | some q =>
     obtain ⟨v, e⟩ := q;show k v (e.apply (hp.set a (.cells (cs.take (off + len * esz)))) (hp.set a (.cells (cs.take (off + len * esz)))).length) = k v ((e.pre a (.cells (cs.take (off + len * esz)))).apply hp hp.length);rw [Q12 (Q26 hq), Bp]
   have h1 : Nat.ble (off + len * esz) cs.length = false := by rw [← Mp, Nat.ble_eq]; exact h0
   rw [h1, if_neg h0]; rfl
 | copyB d s =>
  have hc : ∀ new, (match Q2 tm d with
    | .p .nilSlice => k (.p (.int .i64 0)) hp
    | .slice es a off len => Q1l E hp a fun
     | .cells cs => chk E (Nat.beq es 1 && (Nat.ble (off + len) cs.length && Nat.ble 1 len))
      (Q8c len new cs off fun n cs => Q56 hp a (.cells cs) fun hp => k (.p (.int .i64 n)) hp)
     | _ => E.fail
    | _ => E.fail) = fin E hp k (Q2m hp (Q2 tm d) new) := fun new => by
   simp only [Zb, Qk, Q8c, V5, Q0c, Vj, Xn, Q2m]
   cases Q2 tm d <;> try rfl
   ·rename_i v; cases v <;> rfl
   rename_i es a off len;simp only []
   cases hp[a]? with
   | none => rfl
   | some o =>
    cases o <;> try rfl
    rename_i cs;simp only []
    by_cases h1 : es = 1 <;> by_cases h2 : off + len ≤ cs.length <;> by_cases h3 : 1 ≤ len <;> simp [h1, h2, h3, fin, Xo] <;> omega
  simp only [Qx, Qa, Q38, Q8, Q95]
  cases Q5t hp (Q2 tm s) with
  | none => rfl
  | some new => exact hc new
 | max x y =>
  simp only [Qx, Qa, Q7t, Q8, Zf]
  cases Q2 tm x <;> try rfl
  rename_i v; cases v <;> try rfl
  simp only []
  cases Q2 tm y <;> try rfl
  rename_i v; cases v <;> try rfl
  simp [fin, Q6, Ql]
 | min x y =>
  simp only [Qx, Qa, Q84, Q8, Zf]
  cases Q2 tm x <;> try rfl
  rename_i v; cases v <;> try rfl
  simp only []
  cases Q2 tm y <;> try rfl
  rename_i v; cases v <;> try rfl
  simp [fin, Q6, Ql]
end
end
end Go.Av
