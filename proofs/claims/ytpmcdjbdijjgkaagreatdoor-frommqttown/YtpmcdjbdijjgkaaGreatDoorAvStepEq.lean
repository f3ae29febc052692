/- Part of the proof of FrommqttOwn: for every input the law returns true; no condition. -/
import Derived.Test.YtpmcdjbdijjgkaaGreatDoorAvStep
namespace Go.Av
noncomputable section
universe u
section
variable {α : Type u} (E : Env α)
def fin (E : Env α) (hp : List AObj) (k : AV → List AObj → α) : Option (AV × Eff) → α
 | some (v, e) => k v (e.apply hp hp.length)
 | none => E.fail
theorem Qaz (hp : List AObj) (k : AV → List AObj → α) : fin E hp k none = E.fail := rfl
theorem Qan (hp : List AObj) (k : AV → List AObj → α) (v : AV) (e : Eff) : fin E hp k (some (v, e)) = k v (e.apply hp hp.length) := rfl
theorem Ve {β : Type} (hp : List AObj) (k : AV → List AObj → α) (o : Option β) (f : β → Option (AV × Eff)) : fin E hp k (o.bind f) = (match o with
  | some b => fin E hp k (f b)
  | none => E.fail) := by cases o <;> rfl
theorem Qhx {β : Type} (hp : List AObj) (k : AV → List AObj → α) (o : Option β) (f : β → AV × Eff) : fin E hp k (o.map f) = (match o with
  | some b => fin E hp k (some (f b))
  | none => E.fail) := by cases o <;> rfl
theorem G9 (hp : List AObj) (o : AObj) : ({ new := some o } : Eff).apply hp hp.length = hp ++ [o] := by simp [Eff.apply, plc]
theorem Q32 (hp : List AObj) (n : Nat) (a : Nat) (o : AObj) : ({ set := some (a, o) } : Eff).apply hp n = hp.set a o := by simp [Eff.apply]
theorem Qh6 (hp : List AObj) (a : Nat) (o o' : AObj) : ({ set := some (a, o), new := some o' } : Eff).apply hp hp.length = hp.set a o ++ [o'] := by simp [Eff.apply, plc]
theorem Xd (hp : List AObj) (n : Nat) : ({} : Eff).apply hp n = hp := rfl

theorem Qn9 (hp : List AObj) (esz bytes : Nat) (s : AV) (new : List AV) (n : Nat) (k : AV → List AObj → α) :
  Qm7 E hp esz bytes s new n k = fin E hp k (Qa0 hp hp.length esz bytes s new n) := by
 unfold Qm7 Qa0
 by_cases hn : n = 0
 ·subst hn;simp only [ifB, if_true]
  cases s with
  | p v => cases v <;> rfl
  | _ => rfl
 ·have : Nat.beq n 0 = false := by cases n <;> first | rfl | simp_all
  simp only [this, ifB, hn, if_false]
  cases s with
  | p v =>
   cases v <;> (try rfl) <;>
   (by_cases h3 : (n + 4096) * bytes ≤ 17592186044416 <;> simp [Xa, Q1s, h3, fin, G9])
  | slice es a off len =>
   simp only [Us]
   cases h : hp[a]? with
   | none => rfl
   | some o =>
    cases o <;> simp only [Xa, Uq, J9, Q2j, Q1s, fin] <;> (try rfl)
    by_cases h1 : es = esz <;> rename_i cs <;> by_cases h2 : off + len * esz = cs.length <;> by_cases h3 : (len + n + 4096) * bytes ≤ 17592186044416 <;> simp [h1, h2, h3, Qh6, List.length_set]
  | _ => rfl

theorem Qn4 (hp : List AObj) (K : List AV → α) (v : AV) : Qq7 E hp K v = (match Qia hp v with
  | some new => K new
  | none => E.fail) := by
 unfold Qq7 Qia
 cases v <;> try rfl
 ·rename_i p; cases p <;> try rfl
  ·simp [Yw]
  rename_i es rows;simp only [Xa, Yw]
  by_cases h0 : es = 1
  ·simp [h0]
  have : Nat.beq es 1 = false := by rw [← Nb, Ba]; exact h0
  simp [h0, this]
 rename_i es b off n;simp only [Us, Uq, Xa, Gq]
 cases hp[b]? with
 | none => rfl
 | some o =>
  cases o <;> try rfl
  rename_i cs
  by_cases h0 : es = 1
  ·simp only [h0, if_true, Cc];cases Gk n (cs.drop off) <;> rfl
  have : Nat.beq es 1 = false := by rw [← Nb, Ba]; exact h0
  simp [h0, this]
theorem Q75 (tm : List AV) (hp : List AObj) (k : AV → List AObj → α) (esz bytes : Nat) (s x : Opd) : Q2p E tm hp k esz bytes s x = fin E hp k (Q98 hp hp.length esz bytes (Q4 tm s) (Q4 tm x)) := by
 simp only [Q98, Q2p, Qi, Us, Xa, Qn9, Yw, Uq, Gq]
 cases Q4 tm x <;> try rfl
 ·rename_i v; cases v <;> try rfl
  ·rename_i b
   by_cases h0 : esz = 1
   ·simp [h0]
   have : Nat.beq esz 1 = false := by rw [← Nb, Ba]; exact h0
   simp [h0, this, Qaz]
  rename_i es rows
  by_cases h0 : es = esz
  ·simp [h0]
  have : Nat.beq es esz = false := by rw [← Nb, Ba]; exact h0
  simp [h0, this, Qaz]
 rename_i es b off n;simp only []
 cases hp[b]? with
 | none => rfl
 | some o =>
  cases o <;> try rfl
  rename_i cs
  by_cases h0 : es = esz
  ·simp only [h0, if_true, Ve, Cc];cases Gk (n * esz) (cs.drop off) <;> rfl
  have : Nat.beq es esz = false := by rw [← Nb, Ba]; exact h0
  simp [h0, this, Qaz]
theorem Q91 (tm : List AV) (hp : List AObj) (k : AV → List AObj → α) (c : COp) (hc : c.isCall = false) :
  V5 E tm hp k c = fin E hp k (Qh E.glob tm hp hp.length c) := by
 cases c with
 | call f args => cases hc
 | callv f args => cases hc
 | move x => simp only [V5, Qh, Qiv, Qi]; rfl
 | pick c a b =>
  simp only [V5, Qh, Qjl, Qi, Jm]
  cases Q4 tm c <;> try rfl
  rename_i v; cases v <;> try rfl
  rename_i b; cases b <;> rfl
 | alloc z => simp only [V5, Qh, Qfc, Yw, Q1s, Qan, G9]
 | box x =>
  simp only [V5, Qh, Qmq, Qi, Q85, Q1s, Qhx, Qan, G9]
  cases (Q4 tm x).cells? <;> rfl
 | build z ps =>
  simp only [V5, Qh, Qfi, Yw, Qbr, Ve];cases Q28 tm (z.map AV.p) ps <;> rfl
 | buildSlice z len esz ps =>
  simp only [V5, Qh, Q4j, Yw, Qbr, Q1s, Qhx, Qan, G9];cases Q28 tm ((List.replicate len z).flatten.map AV.p) ps <;> rfl
 | load n agg x =>
  simp only [V5, Qh, Qjq, Qi, Q3v, Gq, Uv, Ve]
  cases U7 E.glob hp (Q4 tm x) with
  | none => rfl
  | some cs =>
   simp only []
   cases Gk n cs with
   | none => rfl
   | some cs => simp only []; cases sOf agg cs <;> rfl
 | store n x y =>
  simp only [V5, Qh, Qgb, Qi, Us, Q85, Xa, Q3a, Q2j]
  cases Q4 tm x <;> try rfl
  rename_i a off;simp only []
  cases hp[a]? with
  | none => rfl
  | some o =>
   cases o <;> try rfl
   rename_i cs;simp only []
   cases (Q4 tm y).cells? with
   | none => rfl
   | some v =>
    simp only []
    by_cases h1 : v.length = n <;> by_cases h2 : off + n ≤ cs.length <;> simp [h1, h2, fin, Q32]
 | nilCheck x =>
  simp only [V5, Qh, Q7u, Qi]
  cases Q4 tm x <;> try rfl
  ·rename_i v; cases v <;> try rfl
   rename_i fn a b; cases fn <;> rfl
  rename_i fn a b; cases fn <;> rfl
 | ari op x y =>
  simp only [V5, Qh, Qmi, Qi]
  cases Q4 tm x <;> try rfl
  rename_i v
  cases v <;> try rfl
  ·simp only []
   cases Q4 tm y <;> try rfl
   rename_i v
   cases v <;> try rfl
   simp only [Qo1, Xa];rename_i i x j y;cases Qa8 op i j
   ·rfl
   simp only [if_true, Ve];cases Qnt op i x y <;> rfl
  simp only []
  cases Q4 tm y <;> try rfl
  rename_i v
  cases v <;> try rfl
  cases op <;> try rfl
  simp only [Xa];rename_i s t
  by_cases h : s.length + t.length ≤ 4611686018427387904 <;> simp [h, fin, Qb, Xd]
 | cmp op x y =>
  simp only [V5, Qh, Qm4, Qi, Ve, E.cmp.2, E.scmp.2]
  cases Q4 tm x <;> try rfl
  rename_i v
  cases v <;> try rfl
  ·simp only []
   cases Q4 tm y <;> try rfl
   rename_i v
   cases v <;> try rfl
   rename_i i x j y;simp only [Xa, Qpg];cases i == j <;> rfl
  simp only []
  cases Q4 tm y <;> try rfl
  rename_i v;cases v <;> rfl
 | eqB neg x y =>
  simp only [V5, Qh, Qmh, Qi]
  cases Q4 tm x <;> try rfl
  rename_i v
  cases v <;> try rfl
  simp only []
  cases Q4 tm y <;> try rfl
  rename_i v
  cases v <;> try rfl
  cases neg <;> rfl
 | eqP neg x y =>
  simp only [V5, Qh, Qmt, Qi]
  cases Q4 tm x <;> try rfl
  ·rename_i v
   cases v <;> try rfl
   simp only []
   cases Q4 tm y <;> try rfl
   rename_i v;cases v <;> rfl
  simp only []
  cases Q4 tm y <;> try rfl
  rename_i v;cases v <;> rfl
 | eqAgg neg kinds x y =>
  simp only [V5, Qh, Qfe, Qi, Qim]
  cases (Q4 tm x).aggs? <;> try rfl
  simp only []
  cases (Q4 tm y).aggs? <;> try rfl
  simp only [Q9q, Ve, Jm];rename_i cs ds;cases Zl kinds cs ds <;> rfl
 | not x =>
  simp only [V5, Qh, Qmk, Qi]; cases Q4 tm x <;> try rfl
  rename_i v; cases v <;> rfl
 | neg x =>
  simp only [V5, Qh, Qms, Qi]; cases Q4 tm x <;> try rfl
  rename_i v; cases v <;> rfl
 | conv i x =>
  simp only [V5, Qh, Qk2, Qi]; cases Q4 tm x <;> try rfl
  rename_i v; cases v <;> rfl
 | bytesOf x =>
  simp only [V5, Qh, Q9w, Qi]; cases Q4 tm x <;> try rfl
  rename_i v; cases v <;> try rfl
  simp only [Yw, Q1s, fin, G9]
 | strOf x =>
  simp only [V5, Qh, Qfb, Qi, Us]
  cases Q4 tm x <;> try rfl
  ·rename_i v; cases v <;> rfl
  rename_i es a off len;simp only []
  cases hp[a]? with
  | none => rfl
  | some o =>
   cases o <;> try rfl
   simp only [Uq, Gq, Q7s, Ve];rename_i cs
   cases Gk len (cs.drop off) with
   | none => rfl
   | some cs => simp only []; cases Qft cs <;> rfl
 | makeFunc fn a b => simp only [V5, Qh, Q8b, U2]; rfl
 | makeMap => simp only [V5, Qh, Q9s, Q1s, fin, G9]
 | bad => rfl
 | sliceZ x =>
  simp only [V5, Qh, Qdd, Qi]
  cases Q4 tm x <;> try rfl
  rename_i v;cases v <;> rfl
 | eqN neg x =>
  simp only [V5, Qh, Qmc, Qi]
  cases Q4 tm x <;> try rfl
  ·rename_i v
   cases v <;> try rfl
   ·cases neg <;> rfl
   rename_i es rows;simp only [Xa];cases rows.isEmpty <;> rfl
  rename_i es b off len;simp only [Xa]
  by_cases h : 0 < len <;> simp [h, fin, Qb, Xd, Nat.blt_eq]
 | extIx x y =>
  simp only [V5, Qh, Qfu, Qi]
  cases Q4 tm x <;> try rfl
  rename_i v
  cases v <;> try (cases Q4 tm y <;> rfl)
  cases Q4 tm y <;> try rfl
  rename_i u
  cases u <;> try rfl
  rename_i s i c;simp only [Xa];cases i == IntKind.u8 <;> rfl
 | rangeS x =>
  simp only [V5, Qh, Qbz, Qi]
  cases Q4 tm x <;> try rfl
  rename_i v
  cases v <;> try rfl
  simp only [Q1s, fin, G9]
 | nextS x =>
  simp only [V5, Qh, Qfz, Qi, Us]
  cases Q4 tm x <;> try rfl
  rename_i b o;simp only []
  cases hp[b]? with
  | none => rfl
  | some ob =>
   cases ob <;> try rfl
   rename_i s pos;simp only [Xa, Q2j, Jm]
   by_cases h0 : o = 0
   ·subst h0
    by_cases hl : pos < s.length
    ·simp [hl, fin, Q32, Nat.blt_eq]
    simp [hl, fin, Qb, Xd, Nat.blt_eq]
   simp [h0, fin]
 | runeStr x =>
  simp only [V5, Qh, Qaa, Qi]
  cases Q4 tm x <;> try rfl
  rename_i v;cases v <;> rfl
 | extCt x y =>
  simp only [V5, Qh, Qg7, Qi]
  cases Q4 tm x <;> try rfl
  rename_i v
  cases v <;> try (cases Q4 tm y <;> rfl)
  cases Q4 tm y <;> try rfl
  rename_i u
  cases u <;> try rfl
  rename_i s i c;simp only [Xa];cases i == IntKind.u8 <;> rfl
 | mkIface t x => simp only [V5, Qh, Q9y, Qi]; rfl
 | asserT t z agg ok x =>
  simp only [V5, Qh, Qcc, Qi, Jm, Xa, Yw, Uv]
  have key : ∀ (u : Nat) (v : AV), (if Nat.beq u t = true then if ok = true then k (.tuple [v, .p (.bool true)]) hp else k v hp else if ok = true then (match sOf agg (z.map .p) with
     | some z => k (.tuple [z, .p (.bool false)]) hp
     | none => E.fail) else E.fail) = fin E hp k (if u = t then Qb (if ok then .tuple [v, .p (.bool true)] else v) else if ok = true then (sOf agg (z.map .p)).bind fun z => Qb (.tuple [z, .p (.bool false)]) else none) := by
   intro u v
   by_cases hu : u = t
   ·subst hu; cases ok <;> simp [fin, Qb, Xd]
   have : Nat.beq u t = false := by rw [← Nb, Ba]; exact hu
   simp only [this, hu, if_false, Lx];cases ok
   ·rfl
   simp only [if_true, Ve]; cases sOf agg (z.map .p) <;> rfl
  cases Q4 tm x <;> try rfl
  ·rename_i v
   cases v <;> try rfl
   exact key _ _
  exact key _ _
 | eqI neg x =>
  simp only [V5, Qh, Qm8, Qi]
  cases Q4 tm x <;> try rfl
  rename_i v
  cases v <;> first | rfl | (cases neg <;> rfl)
 | eqF neg x =>
  simp only [V5, Qh, Qmu, Qi]
  cases Q4 tm x <;> try rfl
  rename_i v
  cases v <;> first | rfl | (cases neg <;> rfl)
 | del kk m ke =>
  simp only [V5, Qh, Qm6, Qi, Us]
  cases Q4 tm m <;> try rfl
  rename_i r;cases Q4 tm ke
  case p kv =>
   simp only []
   cases h : hp[r]? with
   | none => rfl
   | some o =>
    cases o <;> try rfl
    rename_i es;simp only [Q3f, Xa]
    cases Jt kk kv with
    | false => rfl
    | true =>
     simp only [if_true, Nv, if_false]
     cases Q2b kv 0 es with
     | none => rfl
     | some r => cases r <;> simp [Q2j, fin, Q32, Qb, Xd]
  all_goals
   simp only []
   cases h : hp[r]? with
   | none => rfl
   | some o => cases o <;> rfl
 | insert kk m ke v =>
  simp only [V5, Qh, Qch, Qi, Us]
  cases Q4 tm m <;> try rfl
  rename_i r;cases Q4 tm ke
  case p kv =>
   simp only []
   cases h : hp[r]? with
   | none => rfl
   | some o =>
    cases o <;> try rfl
    rename_i es;simp only [Q3f, Xa]
    cases Jt kk kv with
    | false => rfl
    | true =>
     simp only [if_true, Nv, if_false]
     cases Q2b kv 0 es with
     | none => rfl
     | some r => cases r <;> simp [Q2j, J9, fin, Q32]
  all_goals
   simp only []
   cases h : hp[r]? with
   | none => rfl
   | some o => cases o <;> rfl
 | lookup kk z agg ok m ke =>
  simp only [V5, Qh, Qdj, Qi, Us];cases Q4 tm m
  case map r =>
   cases Q4 tm ke
   case p kv =>
    simp only []
    cases h : hp[r]? with
    | none => rfl
    | some o =>
     cases o <;> try rfl
     rename_i es;simp only [Q3f, Xa]
     cases Jt kk kv with
     | false => rfl
     | true =>
      simp only [if_true, Nv, if_false]
      cases Q2b kv 0 es with
      | none => rfl
      | some r =>
       cases r with
       | none =>
        simp only [Yw, Uv, Ve];cases sOf agg (z.map AV.p) <;> cases ok <;> rfl
       | some r => cases ok <;> rfl
   all_goals
    simp only []
    cases h : hp[r]? with
    | none => rfl
    | some o => cases o <;> rfl
  case p mv =>
   cases mv <;> try (cases Q4 tm ke <;> rfl)
   rename_i ps
   cases Q4 tm ke <;> try rfl
   rename_i kv;simp only [Xa, Q7z]
   cases Jt kk kv with
   | false => rfl
   | true =>
    simp only [if_true, Nv, if_false]
    cases Qcv kv ps with
    | none => rfl
    | some r =>
     cases r with
     | none =>
      simp only [Yw, Uv, Ve];cases sOf agg (z.map AV.p) <;> cases ok <;> rfl
     | some r => cases ok <;> rfl
  all_goals (cases Q4 tm ke <;> rfl)
 | makeSlice z bytes l c =>
  simp only [V5, Qh, Q6u, Qi]
  cases Q4 tm l <;> try rfl
  rename_i v; cases v <;> try rfl
  simp only []
  cases Q4 tm c <;> try rfl
  rename_i v; cases v <;> try rfl
  simp only [Xa, Yw, Q1s];rename_i l _ c
  by_cases h1 : 0 ≤ l <;> by_cases h2 : l ≤ c <;> by_cases h3 : c * bytes ≤ 1099511627776 <;> simp [h1, h2, h3, fin, G9]
 | sliceStr x lo hi =>
  simp only [V5, Qh, Q8e, Qi, Qer, Qbc, Xa]
  cases Q4 tm x <;> try rfl
  rename_i v; cases v <;> try rfl
  rename_i s;simp only []
  cases Q6t 0 (lo.map (Q4 tm)) <;> try rfl
  rename_i l;simp only []
  cases Q6t s.length (hi.map (Q4 tm)) <;> try rfl
  rename_i h
  by_cases h1 : l ≤ h <;> by_cases h2 : h ≤ s.length <;> simp [h1, h2, fin, Qb, Xd]
 | slice esz x lo hi =>
  simp only [V5, Qh, Qfn, Qi, Qer, Qbc, Xa]
  cases Q4 tm x <;> try rfl
  ·rename_i v; cases v <;> try rfl
   rename_i es s;simp only []
   cases Q6t 0 (lo.map (Q4 tm)) <;> try rfl
   rename_i l;simp only []
   cases Q6t s.length (hi.map (Q4 tm)) <;> try rfl
   rename_i h
   by_cases h0 : es = esz <;> by_cases h1 : l ≤ h <;> by_cases h2 : h ≤ s.length <;> simp [h0, h1, h2, fin, Qb, Xd]
  rename_i es a off s;simp only []
  cases Q6t 0 (lo.map (Q4 tm)) <;> try rfl
  rename_i l;simp only []
  cases Q6t s (hi.map (Q4 tm)) <;> try rfl
  rename_i h
  by_cases h0 : es = esz <;> by_cases h1 : l ≤ h <;> by_cases h2 : h ≤ s <;> simp [h0, h1, h2, fin, Qb, Xd]
 | sliceArr n esz x lo hi =>
  simp only [V5, Qh, Q83, Qi, Qer, Qbc, Xa, Us]
  cases Q4 tm x <;> try rfl
  rename_i a off;simp only []
  cases hp[a]? with
  | none => rfl
  | some o =>
   cases o <;> try rfl
   rename_i cs;simp only []
   cases Q6t 0 (lo.map (Q4 tm)) <;> try rfl
   rename_i l;simp only []
   cases Q6t n (hi.map (Q4 tm)) <;> try rfl
   rename_i h
   by_cases h0 : off + n * esz ≤ cs.length <;> by_cases h1 : l ≤ h <;> by_cases h2 : h ≤ n <;> simp [h0, h1, h2, fin, Qb, Xd]
 | fieldAddr x off => simp only [V5, Qh, Q6z, Qi, Uq]; cases Q4 tm x <;> rfl
 | field x off n agg =>
  simp only [V5, Qh, Qfg, Qi, Qim]
  cases (Q4 tm x).aggs? <;> try rfl
  simp only [Uq, Gq, Uv, Ve];rename_i cs
  cases Gk n (cs.drop off) with
  | none => rfl
  | some cs => simp only []; cases sOf agg cs <;> rfl
 | indexAddr esz x i =>
  simp only [V5, Qh, Q6v, Qi, Xa, Qkj]
  cases Q4 tm x <;> try rfl
  ·rename_i v; cases v <;> try rfl
   simp only []
   cases Q4 tm i <;> try rfl
   rename_i v; cases v <;> try rfl
   rename_i es rows _ n
   by_cases h0 : es = esz <;> cases hi : idx rows n <;> simp [h0, hi, fin, Qb, Xd]
  simp only []
  cases Q4 tm i <;> try rfl
  rename_i v; cases v <;> try rfl
  rename_i es a off len _ n
  by_cases h1 : 0 ≤ n <;> by_cases h2 : n < len <;> simp [h1, h2, fin, Qb, Xd]
 | indexArr len esz x i =>
  simp only [V5, Qh, Q88, Qi, Xa]
  cases Q4 tm x <;> try rfl
  all_goals
   simp only []
   cases Q4 tm i <;> try rfl
   rename_i v; cases v <;> try rfl
   rename_i n
   by_cases h1 : 0 ≤ n <;> by_cases h2 : n < len <;> simp [h1, h2, fin, Qb, Xd]
 | indexStr x i =>
  simp only [V5, Qh, Q7y, Qi, Qkj]
  cases Q4 tm x <;> try rfl
  rename_i v; cases v <;> try rfl
  simp only []
  cases Q4 tm i <;> try rfl
  rename_i v; cases v <;> try rfl
  simp only [Ve];rename_i s _ n;cases idx s n <;> rfl
 | extract x i =>
  simp only [V5, Qh, Q9u, Qi]
  cases Q4 tm x <;> try rfl
  ·rename_i v; cases v <;> try rfl
   rename_i vs;simp only [Ve];cases vs[i]? <;> rfl
  rename_i vs;simp only [Ve];cases vs[i]? <;> rfl
 | lenStr x =>
  simp only [V5, Qh, Qdh, Qi]
  cases Q4 tm x <;> try rfl
  rename_i v; cases v <;> rfl
 | lenSl x =>
  simp only [V5, Qh, Qg1, Qi]
  cases Q4 tm x <;> try rfl
  rename_i v; cases v <;> rfl
 | lenMap x =>
  simp only [V5, Qh, Qdf, Qi, Us]
  cases Q4 tm x <;> try rfl
  ·rename_i v; cases v <;> rfl
  rename_i r;simp only []
  cases hp[r]? with
  | none => rfl
  | some o => cases o <;> rfl
 | append esz bytes s x => simp only [V5, Qh]; exact Q75 ..
 | appendT esz bytes s x =>
  simp only [V5, Qh, Q9x, Qi, Q75, Qee]
  cases hs : Q4 tm s <;> try rfl
  rename_i es a off len;simp only [Us, Xa, Q5j, Q2j]
  cases hp[a]? with
  | none => rfl
  | some o =>
   cases o <;> try rfl
   rename_i cs;simp only []
   by_cases h0 : off + len * esz ≤ cs.length
   ·have h1 : Nat.ble (off + len * esz) cs.length = true := by simpa using h0
    rw [h1, if_pos h0, if_pos rfl];rw [Nk]
    cases hq : Q98 (hp.set a (.cells (cs.take (off + len * esz)))) hp.length esz bytes (.slice es a off len) (Q4 tm x) with
    | none => rfl
    | some q =>
     obtain ⟨v, e⟩ := q;show k v (e.apply (hp.set a (.cells (cs.take (off + len * esz)))) (hp.set a (.cells (cs.take (off + len * esz)))).length) = k v ((e.pre a (.cells (cs.take (off + len * esz)))).apply hp hp.length);rw [Qde (Qef hq), Nk]
   have h1 : Nat.ble (off + len * esz) cs.length = false := by rw [← Nb, Lr]; exact h0
   rw [h1, if_neg h0]; rfl
 | copyB d s =>
  have hc : ∀ new, (match Q4 tm d with
    | .p .nilSlice => k (.p (.int .i64 0)) hp
    | .slice es a off len => Qcf E hp a fun
     | .cells cs => chk E (Nat.beq es 1 && (Nat.ble (off + len) cs.length && Nat.ble 1 len))
      (Qda len new cs off fun n cs => Qhp hp a (.cells cs) fun hp => k (.p (.int .i64 n)) hp)
     | _ => E.fail
    | _ => E.fail) = fin E hp k (Qet hp (Q4 tm d) new) := fun new => by
   simp only [Us, Xa, Qda, Q5j, Qb2, Q3a, Q2j, Qet]
   cases Q4 tm d <;> try rfl
   ·rename_i v; cases v <;> rfl
   rename_i es a off len;simp only []
   cases hp[a]? with
   | none => rfl
   | some o =>
    cases o <;> try rfl
    rename_i cs;simp only []
    by_cases h1 : es = 1 <;> by_cases h2 : off + len ≤ cs.length <;> by_cases h3 : 1 ≤ len <;> simp [h1, h2, h3, fin, Q32] <;> omega
  simp only [V5, Qh, Qfo, Qi, Qn4]
  cases Qia hp (Q4 tm s) with
  | none => rfl
  | some new => exact hc new
 | max x y =>
  simp only [V5, Qh, Qmr, Qi, Jm]
  cases Q4 tm x <;> try rfl
  rename_i v; cases v <;> try rfl
  simp only []
  cases Q4 tm y <;> try rfl
  rename_i v; cases v <;> try rfl
  simp [fin, Qb, Xd]
 | min x y =>
  simp only [V5, Qh, Qmp, Qi, Jm]
  cases Q4 tm x <;> try rfl
  rename_i v; cases v <;> try rfl
  simp only []
  cases Q4 tm y <;> try rfl
  rename_i v; cases v <;> try rfl
  simp [fin, Qb, Xd]
end
end
end Go.Av
