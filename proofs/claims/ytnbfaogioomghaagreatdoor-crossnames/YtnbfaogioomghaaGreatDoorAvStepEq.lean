/- Part of the proof of CrossNames: for every input the law returns true; no condition. -/
import Derived.Test.YtnbfaogioomghaaGreatDoorAvStep
namespace Go.Av
noncomputable section
universe u
section
variable {α : Type u} (E : Env α)
def fin (E : Env α) (hp : List AObj) (k : AV → List AObj → α) : Option (AV × Eff) → α
 | some (v, e) => k v (e.apply hp hp.length)
 | none => E.fail
theorem Q55 (hp : List AObj) (k : AV → List AObj → α) : fin E hp k none = E.fail := rfl
theorem Q4t (hp : List AObj) (k : AV → List AObj → α) (v : AV) (e : Eff) : fin E hp k (some (v, e)) = k v (e.apply hp hp.length) := rfl
theorem Yk {β : Type} (hp : List AObj) (k : AV → List AObj → α) (o : Option β) (f : β → Option (AV × Eff)) : fin E hp k (o.bind f) = (match o with
  | some b => fin E hp k (f b)
  | none => E.fail) := by cases o <;> rfl
theorem Qce {β : Type} (hp : List AObj) (k : AV → List AObj → α) (o : Option β) (f : β → AV × Eff) : fin E hp k (o.map f) = (match o with
  | some b => fin E hp k (some (f b))
  | none => E.fail) := by cases o <;> rfl
theorem W7 (hp : List AObj) (o : AObj) : ({ new := some o } : Eff).apply hp hp.length = hp ++ [o] := by simp [Eff.apply, plc]
theorem Uo (hp : List AObj) (n : Nat) (a : Nat) (o : AObj) : ({ set := some (a, o) } : Eff).apply hp n = hp.set a o := by simp [Eff.apply]
theorem Qam (hp : List AObj) (a : Nat) (o o' : AObj) : ({ set := some (a, o), new := some o' } : Eff).apply hp hp.length = hp.set a o ++ [o'] := by simp [Eff.apply, plc]
theorem Z9 (hp : List AObj) (n : Nat) : ({} : Eff).apply hp n = hp := rfl

theorem Qfv (hp : List AObj) (esz bytes : Nat) (s : AV) (new : List AV) (n : Nat) (k : AV → List AObj → α) :
  Qen E hp esz bytes s new n k = fin E hp k (Q3y hp hp.length esz bytes s new n) := by
 unfold Qen Q3y
 by_cases hn : n = 0
 ·subst hn;simp only [ifB, if_true]
  cases s with
  | p v => cases v <;> rfl
  | _ => rfl
 ·have : Nat.beq n 0 = false := by cases n <;> first | rfl | simp_all
  simp only [this, ifB, hn, if_false]
  cases s with
  | p v =>
   cases v <;> (try rfl) <;>
   (by_cases h3 : (n + 4096) * bytes ≤ 17592186044416 <;> simp [Z0, Ub, h3, fin, W7])
  | slice es a off len =>
   simp only [X8]
   cases h : hp[a]? with
   | none => rfl
   | some o =>
    cases o <;> simp only [Z0, X4, Xq, Um, Ub, fin] <;> (try rfl)
    by_cases h1 : es = esz <;> rename_i cs <;> by_cases h2 : off + len * esz = cs.length <;> by_cases h3 : (len + n + 4096) * bytes ≤ 17592186044416 <;> simp [h1, h2, h3, Qam, List.length_set]
  | _ => rfl

theorem Qfx (hp : List AObj) (K : List AV → α) (v : AV) : Qjc E hp K v = (match Qbl hp v with
  | some new => K new
  | none => E.fail) := by
 unfold Qjc Qbl
 cases v <;> try rfl
 ·rename_i p; cases p <;> try rfl
  ·simp [Zb]
  rename_i es rows;simp only [Z0, Zb]
  by_cases h0 : es = 1
  ·simp [h0]
  have : Nat.beq es 1 = false := by rw [← Mv, Nx]; exact h0
  simp [h0, this]
 rename_i es b off n;simp only [X8, X4, Z0, Ws]
 cases hp[b]? with
 | none => rfl
 | some o =>
  cases o <;> try rfl
  rename_i cs
  by_cases h0 : es = 1
  ·simp only [h0, if_true, Bu];cases Wh n (cs.drop off) <;> rfl
  have : Nat.beq es 1 = false := by rw [← Mv, Nx]; exact h0
  simp [h0, this]
theorem Q17 (tm : List AV) (hp : List AObj) (k : AV → List AObj → α) (esz bytes : Nat) (s x : Opd) : Ur E tm hp k esz bytes s x = fin E hp k (Q3b hp hp.length esz bytes (Q1 tm s) (Q1 tm x)) := by
 simp only [Q3b, Ur, Qb, X8, Z0, Qfv, Zb, X4, Ws]
 cases Q1 tm x <;> try rfl
 ·rename_i v; cases v <;> try rfl
  ·rename_i b
   by_cases h0 : esz = 1
   ·simp [h0]
   have : Nat.beq esz 1 = false := by rw [← Mv, Nx]; exact h0
   simp [h0, this, Q55]
  rename_i es rows
  by_cases h0 : es = esz
  ·simp [h0]
  have : Nat.beq es esz = false := by rw [← Mv, Nx]; exact h0
  simp [h0, this, Q55]
 rename_i es b off n;simp only []
 cases hp[b]? with
 | none => rfl
 | some o =>
  cases o <;> try rfl
  rename_i cs
  by_cases h0 : es = esz
  ·simp only [h0, if_true, Yk, Bu];cases Wh (n * esz) (cs.drop off) <;> rfl
  have : Nat.beq es esz = false := by rw [← Mv, Nx]; exact h0
  simp [h0, this, Q55]
theorem Q3u (tm : List AV) (hp : List AObj) (k : AV → List AObj → α) (esz : Nat) (x : Opd) (lo hi : Option Opd) : Q1o E tm hp k esz x lo hi = fin E hp k (Q93 esz (Q1 tm x) (lo.map (Q1 tm)) (hi.map (Q1 tm))) := by
 simp only [Q93, Q1o, Qb, Q5f, Q1p, Z0]
 cases Q1 tm x <;> try rfl
 ·rename_i v; cases v <;> try rfl
  rename_i es s;simp only []
  cases Jg 0 (lo.map (Q1 tm)) <;> try rfl
  rename_i l;simp only []
  cases Jg s.length (hi.map (Q1 tm)) <;> try rfl
  rename_i h
  by_cases h0 : es = esz <;> by_cases h1 : l ≤ h <;> by_cases h2 : h ≤ s.length <;> simp [h0, h1, h2, fin, Q7, Z9]
 ·rename_i es a off s;simp only []
  cases Jg 0 (lo.map (Q1 tm)) <;> try rfl
  rename_i l;simp only []
  cases Jg s (hi.map (Q1 tm)) <;> try rfl
  rename_i h
  by_cases h0 : es = esz <;> by_cases h1 : l ≤ h <;> by_cases h2 : h ≤ s <;> simp [h0, h1, h2, fin, Q7, Z9]

theorem Q2f (tm : List AV) (hp : List AObj) (k : AV → List AObj → α) (c : COp) (hc : c.isCall = false) :
  Y5 E tm hp k c = fin E hp k (Qd E.glob tm hp hp.length c) := by
 cases c with
 | call f args => cases hc
 | callv f args => cases hc
 | move x => simp only [Y5, Qd, Q5a, Qb]; rfl
 | pick c a b =>
  simp only [Y5, Qd, Qbi, Qb, Xo]
  cases Q1 tm c <;> try rfl
  rename_i v; cases v <;> try rfl
  rename_i b; cases b <;> rfl
 | alloc z => simp only [Y5, Qd, Q91, Zb, Ub, Q4t, W7]
 | box x =>
  simp only [Y5, Qd, Qey, Qb, Q39, Ub, Qce, Q4t, W7]
  cases (Q1 tm x).cells? <;> rfl
 | build z ps =>
  simp only [Y5, Qd, Q96, Zb, Q5e, Yk];cases Uf tm (z.map AV.p) ps <;> rfl
 | buildSlice z len esz ps =>
  simp only [Y5, Qd, Gq, Zb, Q5e, Ub, Qce, Q4t, W7];cases Uf tm ((List.replicate len z).flatten.map AV.p) ps <;> rfl
 | load n agg x =>
  simp only [Y5, Qd, Qbn, Qb, G3, Ws, X9, Yk]
  cases Yx E.glob hp (Q1 tm x) with
  | none => rfl
  | some cs =>
   simp only []
   cases Wh n cs with
   | none => rfl
   | some cs => simp only []; cases sOf agg cs <;> rfl
 | store n x y =>
  simp only [Y5, Qd, Q8e, Qb, X8, Q39, Z0, J8, Um]
  cases Q1 tm x <;> try rfl
  rename_i a off;simp only []
  cases hp[a]? with
  | none => rfl
  | some o =>
   cases o <;> try rfl
   rename_i cs;simp only []
   cases (Q1 tm y).cells? with
   | none => rfl
   | some v =>
    simp only []
    by_cases h1 : v.length = n <;> by_cases h2 : off + n ≤ cs.length <;> simp [h1, h2, fin, Uo]
 | nilCheck x =>
  simp only [Y5, Qd, Q33, Qb]
  cases Q1 tm x <;> try rfl
  ·rename_i v; cases v <;> try rfl
   rename_i fn a b; cases fn <;> rfl
  rename_i fn a b; cases fn <;> rfl
 | ari op x y =>
  simp only [Y5, Qd, Qew, Qb]
  cases Q1 tm x <;> try rfl
  rename_i v
  cases v <;> try rfl
  ·simp only []
   cases Q1 tm y <;> try rfl
   rename_i v
   cases v <;> try rfl
   simp only [Qfc, Z0];rename_i i x j y;cases Q4e op i j
   ·rfl
   simp only [if_true, Yk];cases Qfh op i x y <;> rfl
  simp only []
  cases Q1 tm y <;> try rfl
  rename_i v
  cases v <;> try rfl
  cases op <;> try rfl
  simp only [Z0];rename_i s t
  by_cases h : s.length + t.length ≤ 4611686018427387904 <;> simp [h, fin, Q7, Z9]
 | cmp op x y =>
  simp only [Y5, Qd, Qeq, Qb, Yk, E.cmp.2, E.scmp.2]
  cases Q1 tm x <;> try rfl
  rename_i v
  cases v <;> try rfl
  ·simp only []
   cases Q1 tm y <;> try rfl
   rename_i v
   cases v <;> try rfl
   rename_i i x j y;simp only [Z0, Qia];cases i == j <;> rfl
  simp only []
  cases Q1 tm y <;> try rfl
  rename_i v;cases v <;> rfl
 | eqB neg x y =>
  simp only [Y5, Qd, Qf2, Qb]
  cases Q1 tm x <;> try rfl
  rename_i v
  cases v <;> try rfl
  simp only []
  cases Q1 tm y <;> try rfl
  rename_i v
  cases v <;> try rfl
  cases neg <;> rfl
 | eqP neg x y =>
  simp only [Y5, Qd, Qex, Qb]
  cases Q1 tm x <;> try rfl
  ·rename_i v
   cases v <;> try rfl
   simp only []
   cases Q1 tm y <;> try rfl
   rename_i v;cases v <;> rfl
  simp only []
  cases Q1 tm y <;> try rfl
  rename_i v;cases v <;> rfl
 | eqAgg neg kinds x y =>
  simp only [Y5, Qd, Q9h, Qb, Qb3]
  cases (Q1 tm x).aggs? <;> try rfl
  simp only []
  cases (Q1 tm y).aggs? <;> try rfl
  simp only [Q9r, Yk, Xo];rename_i cs ds;cases Qm kinds cs ds <;> rfl
 | not x =>
  simp only [Y5, Qd, Qf6, Qb]; cases Q1 tm x <;> try rfl
  rename_i v; cases v <;> rfl
 | neg x =>
  simp only [Y5, Qd, Qf5, Qb]; cases Q1 tm x <;> try rfl
  rename_i v; cases v <;> rfl
 | conv i x =>
  simp only [Y5, Qd, Qcl, Qb]; cases Q1 tm x <;> try rfl
  rename_i v; cases v <;> rfl
 | bytesOf x =>
  simp only [Y5, Qd, Q45, Qb]; cases Q1 tm x <;> try rfl
  rename_i v; cases v <;> try rfl
  simp only [Zb, Ub, fin, W7]
 | strOf x =>
  simp only [Y5, Qd, Q9k, Qb, X8]
  cases Q1 tm x <;> try rfl
  ·rename_i v; cases v <;> rfl
  rename_i es a off len;simp only []
  cases hp[a]? with
  | none => rfl
  | some o =>
   cases o <;> try rfl
   simp only [X4, Ws, Q2c, Yk];rename_i cs
   cases Wh len (cs.drop off) with
   | none => rfl
   | some cs => simp only []; cases Q8r cs <;> rfl
 | makeFunc fn a b => simp only [Y5, Qd, Q2k, Yt]; rfl
 | makeMap => simp only [Y5, Qd, Q3x, Ub, fin, W7]
 | bad => rfl
 | sliceZ x =>
  simp only [Y5, Qd, Q6c, Qb]
  cases Q1 tm x <;> try rfl
  rename_i v;cases v <;> rfl
 | eqN neg x =>
  simp only [Y5, Qd, Qf1, Qb]
  cases Q1 tm x <;> try rfl
  ·rename_i v
   cases v <;> try rfl
   ·cases neg <;> rfl
   rename_i es rows;simp only [Z0];cases rows.isEmpty <;> rfl
  rename_i es b off len;simp only [Z0]
  by_cases h : 0 < len <;> simp [h, fin, Q7, Z9, Nat.blt_eq]
 | extIx x y =>
  simp only [Y5, Qd, Q92, Qb]
  cases Q1 tm x <;> try rfl
  rename_i v
  cases v <;> try (cases Q1 tm y <;> rfl)
  cases Q1 tm y <;> try rfl
  rename_i u
  cases u <;> try rfl
  rename_i s i c;simp only [Z0];cases i == IntKind.u8 <;> rfl
 | rangeS x =>
  simp only [Y5, Qd, Q6v, Qb]
  cases Q1 tm x <;> try rfl
  rename_i v
  cases v <;> try rfl
  simp only [Ub, fin, W7]
 | nextS x =>
  simp only [Y5, Qd, Q8o, Qb, X8]
  cases Q1 tm x <;> try rfl
  rename_i b o;simp only []
  cases hp[b]? with
  | none => rfl
  | some ob =>
   cases ob <;> try rfl
   rename_i s pos;simp only [Z0, Um, Xo]
   by_cases h0 : o = 0
   ·subst h0
    by_cases hl : pos < s.length
    ·simp [hl, fin, Uo, Nat.blt_eq]
    simp [hl, fin, Q7, Z9, Nat.blt_eq]
   simp [h0, fin]
 | runeStr x =>
  simp only [Y5, Qd, Q4i, Qb]
  cases Q1 tm x <;> try rfl
  rename_i v;cases v <;> rfl
 | extCt x y =>
  simp only [Y5, Qd, Q9c, Qb]
  cases Q1 tm x <;> try rfl
  rename_i v
  cases v <;> try (cases Q1 tm y <;> rfl)
  cases Q1 tm y <;> try rfl
  rename_i u
  cases u <;> try rfl
  rename_i s i c;simp only [Z0];cases i == IntKind.u8 <;> rfl
 | mkIface t x => simp only [Y5, Qd, Q42, Qb]; rfl
 | asserT t z agg ok x =>
  simp only [Y5, Qd, Q6j, Qb, Xo, Z0, Zb, X9]
  have key : ∀ (u : Nat) (v : AV), (if Nat.beq u t = true then if ok = true then k (.tuple [v, .p (.bool true)]) hp else k v hp else if ok = true then (match sOf agg (z.map .p) with
     | some z => k (.tuple [z, .p (.bool false)]) hp
     | none => E.fail) else E.fail) = fin E hp k (if u = t then Q7 (if ok then .tuple [v, .p (.bool true)] else v) else if ok = true then (sOf agg (z.map .p)).bind fun z => Q7 (.tuple [z, .p (.bool false)]) else none) := by
   intro u v
   by_cases hu : u = t
   ·subst hu; cases ok <;> simp [fin, Q7, Z9]
   have : Nat.beq u t = false := by rw [← Mv, Nx]; exact hu
   simp only [this, hu, if_false, Ls];cases ok
   ·rfl
   simp only [if_true, Yk]; cases sOf agg (z.map .p) <;> rfl
  cases Q1 tm x <;> try rfl
  ·rename_i v
   cases v <;> try rfl
   exact key _ _
  exact key _ _
 | eqI neg x =>
  simp only [Y5, Qd, Qel, Qb]
  cases Q1 tm x <;> try rfl
  rename_i v
  cases v <;> first | rfl | (cases neg <;> rfl)
 | eqF neg x =>
  simp only [Y5, Qd, Qeo, Qb]
  cases Q1 tm x <;> try rfl
  rename_i v
  cases v <;> first | rfl | (cases neg <;> rfl)
 | del kk m ke =>
  simp only [Y5, Qd, Qes, Qb, X8]
  cases Q1 tm m <;> try rfl
  rename_i r;cases Q1 tm ke
  case p kv =>
   simp only []
   cases h : hp[r]? with
   | none => rfl
   | some o =>
    cases o <;> try rfl
    rename_i es;simp only [Je, Z0]
    cases W1 kk kv with
    | false => rfl
    | true =>
     simp only [if_true, Nr, if_false]
     cases Ui kv 0 es with
     | none => rfl
     | some r => cases r <;> simp [Um, fin, Uo, Q7, Z9]
  all_goals
   simp only []
   cases h : hp[r]? with
   | none => rfl
   | some o => cases o <;> rfl
 | insert kk m ke v =>
  simp only [Y5, Qd, Q67, Qb, X8]
  cases Q1 tm m <;> try rfl
  rename_i r;cases Q1 tm ke
  case p kv =>
   simp only []
   cases h : hp[r]? with
   | none => rfl
   | some o =>
    cases o <;> try rfl
    rename_i es;simp only [Je, Z0]
    cases W1 kk kv with
    | false => rfl
    | true =>
     simp only [if_true, Nr, if_false]
     cases Ui kv 0 es with
     | none => rfl
     | some r => cases r <;> simp [Um, Xq, fin, Uo]
  all_goals
   simp only []
   cases h : hp[r]? with
   | none => rfl
   | some o => cases o <;> rfl
 | lookup kk z agg ok m ke =>
  simp only [Y5, Qd, Q6f, Qb, X8];cases Q1 tm m
  case map r =>
   cases Q1 tm ke
   case p kv =>
    simp only []
    cases h : hp[r]? with
    | none => rfl
    | some o =>
     cases o <;> try rfl
     rename_i es;simp only [Je, Z0]
     cases W1 kk kv with
     | false => rfl
     | true =>
      simp only [if_true, Nr, if_false]
      cases Ui kv 0 es with
      | none => rfl
      | some r =>
       cases r with
       | none =>
        simp only [Zb, X9, Yk];cases sOf agg (z.map AV.p) <;> cases ok <;> rfl
       | some r => cases ok <;> rfl
   all_goals
    simp only []
    cases h : hp[r]? with
    | none => rfl
    | some o => cases o <;> rfl
  case p mv =>
   cases mv <;> try (cases Q1 tm ke <;> rfl)
   rename_i ps
   cases Q1 tm ke <;> try rfl
   rename_i kv;simp only [Z0, Qhy]
   cases W1 kk kv with
   | false => rfl
   | true =>
    simp only [if_true, Nr, if_false]
    cases Q6o kv ps with
    | none => rfl
    | some r =>
     cases r with
     | none =>
      simp only [Zb, X9, Yk];cases sOf agg (z.map AV.p) <;> cases ok <;> rfl
     | some r => cases ok <;> rfl
  all_goals (cases Q1 tm ke <;> rfl)
 | makeSlice z bytes l c =>
  simp only [Y5, Qd, Q14, Qb]
  cases Q1 tm l <;> try rfl
  rename_i v; cases v <;> try rfl
  simp only []
  cases Q1 tm c <;> try rfl
  rename_i v; cases v <;> try rfl
  simp only [Z0, Zb, Ub];rename_i l _ c
  by_cases h1 : 0 ≤ l <;> by_cases h2 : l ≤ c <;> by_cases h3 : c * bytes ≤ 1099511627776 <;> simp [h1, h2, h3, fin, W7]
 | sliceStr x lo hi =>
  simp only [Y5, Qd, Q30, Qb, Q5f, Q1p, Z0]
  cases Q1 tm x <;> try rfl
  rename_i v; cases v <;> try rfl
  rename_i s;simp only []
  cases Jg 0 (lo.map (Q1 tm)) <;> try rfl
  rename_i l;simp only []
  cases Jg s.length (hi.map (Q1 tm)) <;> try rfl
  rename_i h
  by_cases h1 : l ≤ h <;> by_cases h2 : h ≤ s.length <;> simp [h1, h2, fin, Q7, Z9]
 | slice esz x lo hi => exact Q3u E tm hp k esz x lo hi
 | slice3 esz x lo hi mx =>
  simp only [Y5, Qd, Q6q, Q5f, Q1p, Z0, Q3u]
  cases Jg 0 (hi.map (Q1 tm)) <;> try rfl
  rename_i h;simp only []
  cases Jg 0 (mx.map (Q1 tm)) <;> try rfl
  rename_i m
  by_cases h0 : h = m <;> simp [h0, fin]
 | sliceArr n esz x lo hi =>
  simp only [Y5, Qd, Q1x, Qb, Q5f, Q1p, Z0, X8]
  cases Q1 tm x <;> try rfl
  rename_i a off;simp only []
  cases hp[a]? with
  | none => rfl
  | some o =>
   cases o <;> try rfl
   rename_i cs;simp only []
   cases Jg 0 (lo.map (Q1 tm)) <;> try rfl
   rename_i l;simp only []
   cases Jg n (hi.map (Q1 tm)) <;> try rfl
   rename_i h
   by_cases h0 : off + n * esz ≤ cs.length <;> by_cases h1 : l ≤ h <;> by_cases h2 : h ≤ n <;> simp [h0, h1, h2, fin, Q7, Z9]
 | fieldAddr x off => simp only [Y5, Qd, Q11, Qb, X4]; cases Q1 tm x <;> rfl
 | field x off n agg =>
  simp only [Y5, Qd, Q99, Qb, Qb3]
  cases (Q1 tm x).aggs? <;> try rfl
  simp only [X4, Ws, X9, Yk];rename_i cs
  cases Wh n (cs.drop off) with
  | none => rfl
  | some cs => simp only []; cases sOf agg cs <;> rfl
 | indexAddr esz x i =>
  simp only [Y5, Qd, Q12, Qb, Z0, Qd3]
  cases Q1 tm x <;> try rfl
  ·rename_i v; cases v <;> try rfl
   simp only []
   cases Q1 tm i <;> try rfl
   rename_i v; cases v <;> try rfl
   rename_i es rows _ n
   by_cases h0 : es = esz <;> cases hi : idx rows n <;> simp [h0, hi, fin, Q7, Z9]
  simp only []
  cases Q1 tm i <;> try rfl
  rename_i v; cases v <;> try rfl
  rename_i es a off len _ n
  by_cases h1 : 0 ≤ n <;> by_cases h2 : n < len <;> simp [h1, h2, fin, Q7, Z9]
 | indexArr len esz x i =>
  simp only [Y5, Qd, Q21, Qb, Z0]
  cases Q1 tm x <;> try rfl
  all_goals
   simp only []
   cases Q1 tm i <;> try rfl
   rename_i v; cases v <;> try rfl
   rename_i n
   by_cases h1 : 0 ≤ n <;> by_cases h2 : n < len <;> simp [h1, h2, fin, Q7, Z9]
 | indexStr x i =>
  simp only [Y5, Qd, Q24, Qb, Qd3]
  cases Q1 tm x <;> try rfl
  rename_i v; cases v <;> try rfl
  simp only []
  cases Q1 tm i <;> try rfl
  rename_i v; cases v <;> try rfl
  simp only [Yk];rename_i s _ n;cases idx s n <;> rfl
 | extract x i =>
  simp only [Y5, Qd, Jd, Qb]
  cases Q1 tm x <;> try rfl
  ·rename_i v; cases v <;> try rfl
   rename_i vs;simp only [Yk];cases vs[i]? <;> rfl
  rename_i vs;simp only [Yk];cases vs[i]? <;> rfl
 | lenStr x =>
  simp only [Y5, Qd, Q6z, Qb]
  cases Q1 tm x <;> try rfl
  rename_i v; cases v <;> rfl
 | lenSl x =>
  simp only [Y5, Qd, Q8k, Qb]
  cases Q1 tm x <;> try rfl
  rename_i v; cases v <;> rfl
 | lenMap x =>
  simp only [Y5, Qd, Q6x, Qb, X8]
  cases Q1 tm x <;> try rfl
  ·rename_i v; cases v <;> rfl
  rename_i r;simp only []
  cases hp[r]? with
  | none => rfl
  | some o => cases o <;> rfl
 | append esz bytes s x => simp only [Y5, Qd]; exact Q17 ..
 | appendT esz bytes s x =>
  simp only [Y5, Qd, Q3v, Qb, Q17, Q7u]
  cases hs : Q1 tm s <;> try rfl
  rename_i es a off len;simp only [X8, Z0, Gr, Um]
  cases hp[a]? with
  | none => rfl
  | some o =>
   cases o <;> try rfl
   rename_i cs;simp only []
   by_cases h0 : off + len * esz ≤ cs.length
   ·have h1 : Nat.ble (off + len * esz) cs.length = true := by simpa using h0
    rw [h1, if_pos h0, if_pos rfl];rw [Bw]
    cases hq : Q3b (hp.set a (.cells (cs.take (off + len * esz)))) hp.length esz bytes (.slice es a off len) (Q1 tm x) with
    | none => rfl
    | some q =>
     obtain ⟨v, e⟩ := q;show k v (e.apply (hp.set a (.cells (cs.take (off + len * esz)))) (hp.set a (.cells (cs.take (off + len * esz)))).length) = k v ((e.pre a (.cells (cs.take (off + len * esz)))).apply hp hp.length);rw [Q74 (Q85 hq), Bw]
   have h1 : Nat.ble (off + len * esz) cs.length = false := by rw [← Mv, Nat.ble_eq]; exact h0
   rw [h1, if_neg h0]; rfl
 | copyB d s =>
  have hc : ∀ new, (match Q1 tm d with
    | .p .nilSlice => k (.p (.int .i64 0)) hp
    | .slice es a off len => Q6r E hp a fun
     | .cells cs => chk E (Nat.beq es 1 && (Nat.ble (off + len) cs.length && Nat.ble 1 len))
      (Qe5 len new cs off fun n cs => Qay hp a (.cells cs) fun hp => k (.p (.int .i64 n)) hp)
     | _ => E.fail
    | _ => E.fail) = fin E hp k (Q7j hp (Q1 tm d) new) := fun new => by
   simp only [X8, Z0, Qe5, Gr, Q4v, J8, Um, Q7j]
   cases Q1 tm d <;> try rfl
   ·rename_i v; cases v <;> rfl
   rename_i es a off len;simp only []
   cases hp[a]? with
   | none => rfl
   | some o =>
    cases o <;> try rfl
    rename_i cs;simp only []
    by_cases h1 : es = 1 <;> by_cases h2 : off + len ≤ cs.length <;> by_cases h3 : 1 ≤ len <;> simp [h1, h2, h3, fin, Uo] <;> omega
  simp only [Y5, Qd, Q95, Qb, Qfx]
  cases Qbl hp (Q1 tm s) with
  | none => rfl
  | some new => exact hc new
 | max x y =>
  simp only [Y5, Qd, Qet, Qb, Xo]
  cases Q1 tm x <;> try rfl
  rename_i v; cases v <;> try rfl
  simp only []
  cases Q1 tm y <;> try rfl
  rename_i v; cases v <;> try rfl
  simp [fin, Q7, Z9]
 | min x y =>
  simp only [Y5, Qd, Qeu, Qb, Xo]
  cases Q1 tm x <;> try rfl
  rename_i v; cases v <;> try rfl
  simp only []
  cases Q1 tm y <;> try rfl
  rename_i v; cases v <;> try rfl
  simp [fin, Q7, Z9]
end
end
end Go.Av
