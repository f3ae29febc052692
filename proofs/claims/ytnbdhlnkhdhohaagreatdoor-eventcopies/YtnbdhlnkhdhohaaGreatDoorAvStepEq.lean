/- Part of the proof of EventCopies: for every input the law returns true; no condition. -/
import Derived.Test.YtnbdhlnkhdhohaaGreatDoorAvStep
namespace Go.Av
noncomputable section
universe u
section
variable {α : Type u} (E : Env α)
def fin (E : Env α) (hp : List AObj) (k : AV → List AObj → α) : Option (AV × Eff) → α
 | some (v, e) => k v (e.apply hp hp.length)
 | none => E.fail
theorem Qja (hp : List AObj) (k : AV → List AObj → α) : fin E hp k none = E.fail := rfl
theorem Qj5 (hp : List AObj) (k : AV → List AObj → α) (v : AV) (e : Eff) : fin E hp k (some (v, e)) = k v (e.apply hp hp.length) := rfl
theorem Gw {β : Type} (hp : List AObj) (k : AV → List AObj → α) (o : Option β) (f : β → Option (AV × Eff)) : fin E hp k (o.bind f) = (match o with
  | some b => fin E hp k (f b)
  | none => E.fail) := by cases o <;> rfl
theorem Qs9 {β : Type} (hp : List AObj) (k : AV → List AObj → α) (o : Option β) (f : β → AV × Eff) : fin E hp k (o.map f) = (match o with
  | some b => fin E hp k (some (f b))
  | none => E.fail) := by cases o <;> rfl
theorem Q4g (hp : List AObj) (o : AObj) : ({ new := some o } : Eff).apply hp hp.length = hp ++ [o] := by simp [Eff.apply, plc]
theorem Q8k (hp : List AObj) (n : Nat) (a : Nat) (o : AObj) : ({ set := some (a, o) } : Eff).apply hp n = hp.set a o := by simp [Eff.apply]
theorem Qrg (hp : List AObj) (a : Nat) (o o' : AObj) : ({ set := some (a, o), new := some o' } : Eff).apply hp hp.length = hp.set a o ++ [o'] := by simp [Eff.apply, plc]
theorem Vr (hp : List AObj) (n : Nat) : ({} : Eff).apply hp n = hp := rfl

theorem Z0g (hp : List AObj) (esz bytes : Nat) (s : AV) (new : List AV) (n : Nat) (k : AV → List AObj → α) :
  Qyq E hp esz bytes s new n k = fin E hp k (Qi1 hp hp.length esz bytes s new n) := by
 unfold Qyq Qi1
 by_cases hn : n = 0
 ·subst hn;simp only [ifB, if_true]
  cases s with
  | p v => cases v <;> rfl
  | _ => rfl
 ·have : Nat.beq n 0 = false := by cases n <;> first | rfl | simp_all
  simp only [this, ifB, hn, if_false]
  cases s with
  | p v =>
   cases v <;> (try rfl) <;>
   (by_cases h3 : (n + 4096) * bytes ≤ 17592186044416 <;> simp [Vu, Q7l, h3, fin, Q4g])
  | slice es a off len =>
   simp only [Q23]
   cases h : hp[a]? with
   | none => rfl
   | some o =>
    cases o <;> simp only [Vu, Q20, Q2h, Q91, Q7l, fin] <;> (try rfl)
    by_cases h1 : es = esz <;> rename_i cs <;> by_cases h2 : off + len * esz = cs.length <;> by_cases h3 : (len + n + 4096) * bytes ≤ 17592186044416 <;> simp [h1, h2, h3, Qrg, List.length_set]
  | _ => rfl

theorem Qzl (hp : List AObj) (K : List AV → α) (v : AV) : Z56 E hp K v = (match Qv4 hp v with
  | some new => K new
  | none => E.fail) := by
 unfold Z56 Qv4
 cases v <;> try rfl
 ·rename_i p; cases p <;> try rfl
  ·simp [V3]
  rename_i es rows;simp only [Vu, V3]
  by_cases h0 : es = 1
  ·simp [h0]
  have : Nat.beq es 1 = false := by rw [← Nl, Bk]; exact h0
  simp [h0, this]
 rename_i es b off n;simp only [Q23, Q20, Vu, Q4x]
 cases hp[b]? with
 | none => rfl
 | some o =>
  cases o <;> try rfl
  rename_i cs
  by_cases h0 : es = 1
  ·simp only [h0, if_true, Cu];cases Q4p n (cs.drop off) <;> rfl
  have : Nat.beq es 1 = false := by rw [← Nl, Bk]; exact h0
  simp [h0, this]
theorem Qe3 (tm : List AV) (hp : List AObj) (k : AV → List AObj → α) (esz bytes : Nat) (s x : Opd) : Q94 E tm hp k esz bytes s x = fin E hp k (Qgs hp hp.length esz bytes (Q6 tm s) (Q6 tm x)) := by
 simp only [Qgs, Q94, Qy, Q23, Vu, Z0g, V3, Q20, Q4x]
 cases Q6 tm x <;> try rfl
 ·rename_i v; cases v <;> try rfl
  ·rename_i b
   by_cases h0 : esz = 1
   ·simp [h0]
   have : Nat.beq esz 1 = false := by rw [← Nl, Bk]; exact h0
   simp [h0, this, Qja]
  rename_i es rows
  by_cases h0 : es = esz
  ·simp [h0]
  have : Nat.beq es esz = false := by rw [← Nl, Bk]; exact h0
  simp [h0, this, Qja]
 rename_i es b off n;simp only []
 cases hp[b]? with
 | none => rfl
 | some o =>
  cases o <;> try rfl
  rename_i cs
  by_cases h0 : es = esz
  ·simp only [h0, if_true, Gw, Cu];cases Q4p (n * esz) (cs.drop off) <;> rfl
  have : Nat.beq es esz = false := by rw [← Nl, Bk]; exact h0
  simp [h0, this, Qja]
theorem Qg8 (tm : List AV) (hp : List AObj) (k : AV → List AObj → α) (c : COp) (hc : c.isCall = false) :
  Gh E tm hp k c = fin E hp k (step E.glob tm hp hp.length c) := by
 cases c with
 | call f args => cases hc
 | callv f args => cases hc
 | move x => simp only [Gh, step, Qst, Qy]; rfl
 | pick c a b =>
  simp only [Gh, step, Qu6, Qy, Q3e]
  cases Q6 tm c <;> try rfl
  rename_i v; cases v <;> try rfl
  rename_i b; cases b <;> rfl
 | alloc z => simp only [Gh, step, Qov, V3, Q7l, Qj5, Q4g]
 | box x =>
  simp only [Gh, step, Qyw, Qy, Qfd, Q7l, Qs9, Qj5, Q4g]
  cases (Q6 tm x).cells? <;> rfl
 | build z ps =>
  simp only [Gh, step, Qon, V3, Qig, Gw];cases Q7q tm (z.map AV.p) ps <;> rfl
 | buildSlice z len esz ps =>
  simp only [Gh, step, Qb2, V3, Qig, Q7l, Qs9, Qj5, Q4g];cases Q7q tm ((List.replicate len z).flatten.map AV.p) ps <;> rfl
 | load n agg x =>
  simp only [Gh, step, Qsr, Qy, Qal, Q4x, Q22, Gw]
  cases Q1a E.glob hp (Q6 tm x) with
  | none => rfl
  | some cs =>
   simp only []
   cases Q4p n cs with
   | none => rfl
   | some cs => simp only []; cases sOf agg cs <;> rfl
 | store n x y =>
  simp only [Gh, step, Qoj, Qy, Q23, Qfd, Vu, Q9i, Q91]
  cases Q6 tm x <;> try rfl
  rename_i a off;simp only []
  cases hp[a]? with
  | none => rfl
  | some o =>
   cases o <;> try rfl
   rename_i cs;simp only []
   cases (Q6 tm y).cells? with
   | none => rfl
   | some v =>
    simp only []
    by_cases h1 : v.length = n <;> by_cases h2 : off + n ≤ cs.length <;> simp [h1, h2, fin, Q8k]
 | nilCheck x =>
  simp only [Gh, step, Qgg, Qy]
  cases Q6 tm x <;> try rfl
  ·rename_i v; cases v <;> try rfl
   rename_i fn a b; cases fn <;> rfl
  rename_i fn a b; cases fn <;> rfl
 | ari op x y =>
  simp only [Gh, step, Qyp, Qy]
  cases Q6 tm x <;> try rfl
  rename_i v
  cases v <;> try rfl
  ·simp only []
   cases Q6 tm y <;> try rfl
   rename_i v
   cases v <;> try rfl
   simp only [Qzx, Vu];rename_i i x j y;cases Qi7 op i j
   ·rfl
   simp only [if_true, Gw];cases Qzq op i x y <;> rfl
  simp only []
  cases Q6 tm y <;> try rfl
  rename_i v
  cases v <;> try rfl
  cases op <;> try rfl
  simp only [Vu];rename_i s t
  by_cases h : s.length + t.length ≤ 4611686018427387904 <;> simp [h, fin, Qk, Vr]
 | cmp op x y =>
  simp only [Gh, step, Qyk, Qy, Gw, E.cmp.2, E.scmp.2]
  cases Q6 tm x <;> try rfl
  rename_i v
  cases v <;> try rfl
  ·simp only []
   cases Q6 tm y <;> try rfl
   rename_i v
   cases v <;> try rfl
   rename_i i x j y;simp only [Vu, Z32];cases i == j <;> rfl
  simp only []
  cases Q6 tm y <;> try rfl
  rename_i v;cases v <;> rfl
 | eqB neg x y =>
  simp only [Gh, step, Qz4, Qy]
  cases Q6 tm x <;> try rfl
  rename_i v
  cases v <;> try rfl
  simp only []
  cases Q6 tm y <;> try rfl
  rename_i v
  cases v <;> try rfl
  cases neg <;> rfl
 | eqP neg x y =>
  simp only [Gh, step, Qz0, Qy]
  cases Q6 tm x <;> try rfl
  ·rename_i v
   cases v <;> try rfl
   simp only []
   cases Q6 tm y <;> try rfl
   rename_i v;cases v <;> rfl
  simp only []
  cases Q6 tm y <;> try rfl
  rename_i v;cases v <;> rfl
 | eqAgg neg kinds x y =>
  simp only [Gh, step, Qoq, Qy, Qva]
  cases (Q6 tm x).aggs? <;> try rfl
  simp only []
  cases (Q6 tm y).aggs? <;> try rfl
  simp only [Qia, Gw, Q3e];rename_i cs ds;cases Yx kinds cs ds <;> rfl
 | not x =>
  simp only [Gh, step, Qyz, Qy]; cases Q6 tm x <;> try rfl
  rename_i v; cases v <;> rfl
 | neg x =>
  simp only [Gh, step, Qz6, Qy]; cases Q6 tm x <;> try rfl
  rename_i v; cases v <;> rfl
 | conv i x =>
  simp only [Gh, step, Qtt, Qy]; cases Q6 tm x <;> try rfl
  rename_i v; cases v <;> rfl
 | bytesOf x =>
  simp only [Gh, step, Qi8, Qy]; cases Q6 tm x <;> try rfl
  rename_i v; cases v <;> try rfl
  simp only [V3, Q7l, fin, Q4g]
 | strOf x =>
  simp only [Gh, step, Qo7, Qy, Q23]
  cases Q6 tm x <;> try rfl
  ·rename_i v; cases v <;> rfl
  rename_i es a off len;simp only []
  cases hp[a]? with
  | none => rfl
  | some o =>
   cases o <;> try rfl
   simp only [Q20, Q4x, Qg2, Gw];rename_i cs
   cases Q4p len (cs.drop off) with
   | none => rfl
   | some cs => simp only []; cases Qow cs <;> rfl
 | makeFunc fn a b => simp only [Gh, step, Qez, Q12]; rfl
 | makeMap => simp only [Gh, step, Qhf, Q7l, fin, Q4g]
 | bad => rfl
 | sliceZ x =>
  simp only [Gh, step, Qlp, Qy]
  cases Q6 tm x <;> try rfl
  rename_i v;cases v <;> rfl
 | eqN neg x =>
  simp only [Gh, step, Qyl, Qy]
  cases Q6 tm x <;> try rfl
  ·rename_i v
   cases v <;> try rfl
   ·cases neg <;> rfl
   rename_i es rows;simp only [Vu];cases rows.isEmpty <;> rfl
  rename_i es b off len;simp only [Vu]
  by_cases h : 0 < len <;> simp [h, fin, Qk, Vr, Nat.blt_eq]
 | extIx x y =>
  simp only [Gh, step, Qpr, Qy]
  cases Q6 tm x <;> try rfl
  rename_i v
  cases v <;> try (cases Q6 tm y <;> rfl)
  cases Q6 tm y <;> try rfl
  rename_i u
  cases u <;> try rfl
  rename_i s i c;simp only [Vu];cases i == IntKind.u8 <;> rfl
 | rangeS x =>
  simp only [Gh, step, Qlq, Qy]
  cases Q6 tm x <;> try rfl
  rename_i v
  cases v <;> try rfl
  simp only [Q7l, fin, Q4g]
 | nextS x =>
  simp only [Gh, step, Qo8, Qy, Q23]
  cases Q6 tm x <;> try rfl
  rename_i b o;simp only []
  cases hp[b]? with
  | none => rfl
  | some ob =>
   cases ob <;> try rfl
   rename_i s pos;simp only [Vu, Q91, Q3e]
   by_cases h0 : o = 0
   ·subst h0
    by_cases hl : pos < s.length
    ·simp [hl, fin, Q8k, Nat.blt_eq]
    simp [hl, fin, Qk, Vr, Nat.blt_eq]
   simp [h0, fin]
 | runeStr x =>
  simp only [Gh, step, Qhe, Qy]
  cases Q6 tm x <;> try rfl
  rename_i v;cases v <;> rfl
 | extCt x y =>
  simp only [Gh, step, Qpq, Qy]
  cases Q6 tm x <;> try rfl
  rename_i v
  cases v <;> try (cases Q6 tm y <;> rfl)
  cases Q6 tm y <;> try rfl
  rename_i u
  cases u <;> try rfl
  rename_i s i c;simp only [Vu];cases i == IntKind.u8 <;> rfl
 | mkIface t x => simp only [Gh, step, Qi4, Qy]; rfl
 | asserT t z agg ok x =>
  simp only [Gh, step, Qlw, Qy, Q3e, Vu, V3, Q22]
  have key : ∀ (u : Nat) (v : AV), (if Nat.beq u t = true then if ok = true then k (.tuple [v, .p (.bool true)]) hp else k v hp else if ok = true then (match sOf agg (z.map .p) with
     | some z => k (.tuple [z, .p (.bool false)]) hp
     | none => E.fail) else E.fail) = fin E hp k (if u = t then Qk (if ok then .tuple [v, .p (.bool true)] else v) else if ok = true then (sOf agg (z.map .p)).bind fun z => Qk (.tuple [z, .p (.bool false)]) else none) := by
   intro u v
   by_cases hu : u = t
   ·subst hu; cases ok <;> simp [fin, Qk, Vr]
   have : Nat.beq u t = false := by rw [← Nl, Bk]; exact hu
   simp only [this, hu, if_false, Lm];cases ok
   ·rfl
   simp only [if_true, Gw]; cases sOf agg (z.map .p) <;> rfl
  cases Q6 tm x <;> try rfl
  ·rename_i v
   cases v <;> try rfl
   exact key _ _
  exact key _ _
 | eqI neg x =>
  simp only [Gh, step, Qz8, Qy]
  cases Q6 tm x <;> try rfl
  rename_i v
  cases v <;> first | rfl | (cases neg <;> rfl)
 | eqF neg x =>
  simp only [Gh, step, Qyx, Qy]
  cases Q6 tm x <;> try rfl
  rename_i v
  cases v <;> first | rfl | (cases neg <;> rfl)
 | del kk m ke =>
  simp only [Gh, step, Qyy, Qy, Q23]
  cases Q6 tm m <;> try rfl
  rename_i r;cases Q6 tm ke
  case p kv =>
   simp only []
   cases h : hp[r]? with
   | none => rfl
   | some o =>
    cases o <;> try rfl
    rename_i es;simp only [Q9a, Vu]
    cases Q3k kk kv with
    | false => rfl
    | true =>
     simp only [if_true, Bd, if_false]
     cases Q87 kv 0 es with
     | none => rfl
     | some r => cases r <;> simp [Q91, fin, Q8k, Qk, Vr]
  all_goals
   simp only []
   cases h : hp[r]? with
   | none => rfl
   | some o => cases o <;> rfl
 | insert kk m ke v =>
  simp only [Gh, step, Ql7, Qy, Q23]
  cases Q6 tm m <;> try rfl
  rename_i r;cases Q6 tm ke
  case p kv =>
   simp only []
   cases h : hp[r]? with
   | none => rfl
   | some o =>
    cases o <;> try rfl
    rename_i es;simp only [Q9a, Vu]
    cases Q3k kk kv with
    | false => rfl
    | true =>
     simp only [if_true, Bd, if_false]
     cases Q87 kv 0 es with
     | none => rfl
     | some r => cases r <;> simp [Q91, Q2h, fin, Q8k]
  all_goals
   simp only []
   cases h : hp[r]? with
   | none => rfl
   | some o => cases o <;> rfl
 | lookup kk z agg ok m ke =>
  simp only [Gh, step, Qlg, Qy, Q23];cases Q6 tm m
  case map r =>
   cases Q6 tm ke
   case p kv =>
    simp only []
    cases h : hp[r]? with
    | none => rfl
    | some o =>
     cases o <;> try rfl
     rename_i es;simp only [Q9a, Vu]
     cases Q3k kk kv with
     | false => rfl
     | true =>
      simp only [if_true, Bd, if_false]
      cases Q87 kv 0 es with
      | none => rfl
      | some r =>
       cases r with
       | none =>
        simp only [V3, Q22, Gw];cases sOf agg (z.map AV.p) <;> cases ok <;> rfl
       | some r => cases ok <;> rfl
   all_goals
    simp only []
    cases h : hp[r]? with
    | none => rfl
    | some o => cases o <;> rfl
  case p mv =>
   cases mv <;> try (cases Q6 tm ke <;> rfl)
   rename_i ps
   cases Q6 tm ke <;> try rfl
   rename_i kv;simp only [Vu, Qfg]
   cases Q3k kk kv with
   | false => rfl
   | true =>
    simp only [if_true, Bd, if_false]
    cases Qm6 kv ps with
    | none => rfl
    | some r =>
     cases r with
     | none =>
      simp only [V3, Q22, Gw];cases sOf agg (z.map AV.p) <;> cases ok <;> rfl
     | some r => cases ok <;> rfl
  all_goals (cases Q6 tm ke <;> rfl)
 | makeSlice z bytes l c =>
  simp only [Gh, step, Qdy, Qy]
  cases Q6 tm l <;> try rfl
  rename_i v; cases v <;> try rfl
  simp only []
  cases Q6 tm c <;> try rfl
  rename_i v; cases v <;> try rfl
  simp only [Vu, V3, Q7l];rename_i l _ c
  by_cases h1 : 0 ≤ l <;> by_cases h2 : l ≤ c <;> by_cases h3 : c * bytes ≤ 1099511627776 <;> simp [h1, h2, h3, fin, Q4g]
 | sliceStr x lo hi =>
  simp only [Gh, step, Qf4, Qy, Qnu, Qj3, Vu]
  cases Q6 tm x <;> try rfl
  rename_i v; cases v <;> try rfl
  rename_i s;simp only []
  cases Qe0 0 (lo.map (Q6 tm)) <;> try rfl
  rename_i l;simp only []
  cases Qe0 s.length (hi.map (Q6 tm)) <;> try rfl
  rename_i h
  by_cases h1 : l ≤ h <;> by_cases h2 : h ≤ s.length <;> simp [h1, h2, fin, Qk, Vr]
 | slice esz x lo hi =>
  simp only [Gh, step, Qq0, Qy, Qnu, Qj3, Vu]
  cases Q6 tm x <;> try rfl
  ·rename_i v; cases v <;> try rfl
   rename_i es s;simp only []
   cases Qe0 0 (lo.map (Q6 tm)) <;> try rfl
   rename_i l;simp only []
   cases Qe0 s.length (hi.map (Q6 tm)) <;> try rfl
   rename_i h
   by_cases h0 : es = esz <;> by_cases h1 : l ≤ h <;> by_cases h2 : h ≤ s.length <;> simp [h0, h1, h2, fin, Qk, Vr]
  rename_i es a off s;simp only []
  cases Qe0 0 (lo.map (Q6 tm)) <;> try rfl
  rename_i l;simp only []
  cases Qe0 s (hi.map (Q6 tm)) <;> try rfl
  rename_i h
  by_cases h0 : es = esz <;> by_cases h1 : l ≤ h <;> by_cases h2 : h ≤ s <;> simp [h0, h1, h2, fin, Qk, Vr]
 | sliceArr n esz x lo hi =>
  simp only [Gh, step, Qg4, Qy, Qnu, Qj3, Vu, Q23]
  cases Q6 tm x <;> try rfl
  rename_i a off;simp only []
  cases hp[a]? with
  | none => rfl
  | some o =>
   cases o <;> try rfl
   rename_i cs;simp only []
   cases Qe0 0 (lo.map (Q6 tm)) <;> try rfl
   rename_i l;simp only []
   cases Qe0 n (hi.map (Q6 tm)) <;> try rfl
   rename_i h
   by_cases h0 : off + n * esz ≤ cs.length <;> by_cases h1 : l ≤ h <;> by_cases h2 : h ≤ n <;> simp [h0, h1, h2, fin, Qk, Vr]
 | fieldAddr x off => simp only [Gh, step, Qdq, Qy, Q20]; cases Q6 tm x <;> rfl
 | field x off n agg =>
  simp only [Gh, step, Qpc, Qy, Qva]
  cases (Q6 tm x).aggs? <;> try rfl
  simp only [Q20, Q4x, Q22, Gw];rename_i cs
  cases Q4p n (cs.drop off) with
  | none => rfl
  | some cs => simp only []; cases sOf agg cs <;> rfl
 | indexAddr esz x i =>
  simp only [Gh, step, Qdz, Qy, Vu, Qvl]
  cases Q6 tm x <;> try rfl
  ·rename_i v; cases v <;> try rfl
   simp only []
   cases Q6 tm i <;> try rfl
   rename_i v; cases v <;> try rfl
   rename_i es rows _ n
   by_cases h0 : es = esz <;> cases hi : idx rows n <;> simp [h0, hi, fin, Qk, Vr]
  simp only []
  cases Q6 tm i <;> try rfl
  rename_i v; cases v <;> try rfl
  rename_i es a off len _ n
  by_cases h1 : 0 ≤ n <;> by_cases h2 : n < len <;> simp [h1, h2, fin, Qk, Vr]
 | indexArr len esz x i =>
  simp only [Gh, step, Qfz, Qy, Vu]
  cases Q6 tm x <;> try rfl
  all_goals
   simp only []
   cases Q6 tm i <;> try rfl
   rename_i v; cases v <;> try rfl
   rename_i n
   by_cases h1 : 0 ≤ n <;> by_cases h2 : n < len <;> simp [h1, h2, fin, Qk, Vr]
 | indexStr x i =>
  simp only [Gh, step, Qg0, Qy, Qvl]
  cases Q6 tm x <;> try rfl
  rename_i v; cases v <;> try rfl
  simp only []
  cases Q6 tm i <;> try rfl
  rename_i v; cases v <;> try rfl
  simp only [Gw];rename_i s _ n;cases idx s n <;> rfl
 | extract x i =>
  simp only [Gh, step, Qhy, Qy]
  cases Q6 tm x <;> try rfl
  ·rename_i v; cases v <;> try rfl
   rename_i vs;simp only [Gw];cases vs[i]? <;> rfl
  rename_i vs;simp only [Gw];cases vs[i]? <;> rfl
 | lenStr x =>
  simp only [Gh, step, Ql2, Qy]
  cases Q6 tm x <;> try rfl
  rename_i v; cases v <;> rfl
 | lenSl x =>
  simp only [Gh, step, Qpa, Qy]
  cases Q6 tm x <;> try rfl
  rename_i v; cases v <;> rfl
 | lenMap x =>
  simp only [Gh, step, Qkm, Qy, Q23]
  cases Q6 tm x <;> try rfl
  ·rename_i v; cases v <;> rfl
  rename_i r;simp only []
  cases hp[r]? with
  | none => rfl
  | some o => cases o <;> rfl
 | append esz bytes s x => simp only [Gh, step]; exact Qe3 ..
 | appendT esz bytes s x =>
  simp only [Gh, step, Qi3, Qy, Qe3, Qnf]
  cases hs : Q6 tm s <;> try rfl
  rename_i es a off len;simp only [Q23, Vu, Qce, Q91]
  cases hp[a]? with
  | none => rfl
  | some o =>
   cases o <;> try rfl
   rename_i cs;simp only []
   by_cases h0 : off + len * esz ≤ cs.length
   ·have h1 : Nat.ble (off + len * esz) cs.length = true := by simpa using h0
    rw [h1, if_pos h0, if_pos rfl];rw [Ns]
    cases hq : Qgs (hp.set a (.cells (cs.take (off + len * esz)))) hp.length esz bytes (.slice es a off len) (Q6 tm x) with
    | none => rfl
    | some q =>
     obtain ⟨v, e⟩ := q;show k v (e.apply (hp.set a (.cells (cs.take (off + len * esz)))) (hp.set a (.cells (cs.take (off + len * esz)))).length) = k v ((e.pre a (.cells (cs.take (off + len * esz)))).apply hp hp.length);rw [Qly (Qnm hq), Ns]
   have h1 : Nat.ble (off + len * esz) cs.length = false := by rw [← Nl, Lk]; exact h0
   rw [h1, if_neg h0]; rfl
 | copyB d s =>
  have hc : ∀ new, (match Q6 tm d with
    | .p .nilSlice => k (.p (.int .i64 0)) hp
    | .slice es a off len => Qm3 E hp a fun
     | .cells cs => chk E (Nat.beq es 1 && (Nat.ble (off + len) cs.length && Nat.ble 1 len))
      (Qh8 len new cs off fun n cs => Qs3 hp a (.cells cs) fun hp => k (.p (.int .i64 n)) hp)
     | _ => E.fail
    | _ => E.fail) = fin E hp k (Qmw hp (Q6 tm d) new) := fun new => by
   simp only [Q23, Vu, Qh8, Qce, Qjc, Q9i, Q91, Qmw]
   cases Q6 tm d <;> try rfl
   ·rename_i v; cases v <;> rfl
   rename_i es a off len;simp only []
   cases hp[a]? with
   | none => rfl
   | some o =>
    cases o <;> try rfl
    rename_i cs;simp only []
    by_cases h1 : es = 1 <;> by_cases h2 : off + len ≤ cs.length <;> by_cases h3 : 1 ≤ len <;> simp [h1, h2, h3, fin, Q8k] <;> omega
  simp only [Gh, step, Qos, Qy, Qzl]
  cases Qv4 hp (Q6 tm s) with
  | none => rfl
  | some new => exact hc new
 | max x y =>
  simp only [Gh, step, Qyi, Qy, Q3e]
  cases Q6 tm x <;> try rfl
  rename_i v; cases v <;> try rfl
  simp only []
  cases Q6 tm y <;> try rfl
  rename_i v; cases v <;> try rfl
  simp [fin, Qk, Vr]
 | min x y =>
  simp only [Gh, step, Qyn, Qy, Q3e]
  cases Q6 tm x <;> try rfl
  rename_i v; cases v <;> try rfl
  simp only []
  cases Q6 tm y <;> try rfl
  rename_i v; cases v <;> try rfl
  simp [fin, Qk, Vr]
end
end
end Go.Av
