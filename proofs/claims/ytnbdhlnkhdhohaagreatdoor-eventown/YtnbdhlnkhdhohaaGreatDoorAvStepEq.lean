/- Part of the proof of EventOwn: for every input the law returns true; no condition. -/
import Derived.Test.YtnbdhlnkhdhohaaGreatDoorAvStep
namespace Go.Av
noncomputable section
universe u
section
variable {α : Type u} (E : Env α)
def fin (E : Env α) (hp : List AObj) (k : AV → List AObj → α) : Option (AV × Eff) → α
 | some (v, e) => k v (e.apply hp hp.length)
 | none => E.fail
theorem Qjq (hp : List AObj) (k : AV → List AObj → α) : fin E hp k none = E.fail := rfl
theorem Qis (hp : List AObj) (k : AV → List AObj → α) (v : AV) (e : Eff) : fin E hp k (some (v, e)) = k v (e.apply hp hp.length) := rfl
theorem Gs {β : Type} (hp : List AObj) (k : AV → List AObj → α) (o : Option β) (f : β → Option (AV × Eff)) : fin E hp k (o.bind f) = (match o with
  | some b => fin E hp k (f b)
  | none => E.fail) := by cases o <;> rfl
theorem Qub {β : Type} (hp : List AObj) (k : AV → List AObj → α) (o : Option β) (f : β → AV × Eff) : fin E hp k (o.map f) = (match o with
  | some b => fin E hp k (some (f b))
  | none => E.fail) := by cases o <;> rfl
theorem Q45 (hp : List AObj) (o : AObj) : ({ new := some o } : Eff).apply hp hp.length = hp ++ [o] := by simp [Eff.apply, plc]
theorem Q8t (hp : List AObj) (n : Nat) (a : Nat) (o : AObj) : ({ set := some (a, o) } : Eff).apply hp n = hp.set a o := by simp [Eff.apply]
theorem Qqo (hp : List AObj) (a : Nat) (o o' : AObj) : ({ set := some (a, o), new := some o' } : Eff).apply hp hp.length = hp.set a o ++ [o'] := by simp [Eff.apply, plc]
theorem Vy (hp : List AObj) (n : Nat) : ({} : Eff).apply hp n = hp := rfl

theorem Z13 (hp : List AObj) (esz bytes : Nat) (s : AV) (new : List AV) (n : Nat) (k : AV → List AObj → α) :
  Qyl E hp esz bytes s new n k = fin E hp k (Qhw hp hp.length esz bytes s new n) := by
 unfold Qyl Qhw
 by_cases hn : n = 0
 ·subst hn;simp only [ifB, if_true]
  cases s with
  | p v => cases v <;> rfl
  | _ => rfl
 ·have : Nat.beq n 0 = false := by cases n <;> first | rfl | simp_all
  simp only [this, ifB, hn, if_false]
  cases s with
  | p v =>
   cases v <;> (try rfl) <;>
   (by_cases h3 : (n + 4096) * bytes ≤ 17592186044416 <;> simp [U0, Q7g, h3, fin, Q45])
  | slice es a off len =>
   simp only [Q24]
   cases h : hp[a]? with
   | none => rfl
   | some o =>
    cases o <;> simp only [U0, Q1v, Q2s, Q8i, Q7g, fin] <;> (try rfl)
    by_cases h1 : es = esz <;> rename_i cs <;> by_cases h2 : off + len * esz = cs.length <;> by_cases h3 : (len + n + 4096) * bytes ≤ 17592186044416 <;> simp [h1, h2, h3, Qqo, List.length_set]
  | _ => rfl

theorem Z18 (hp : List AObj) (K : List AV → α) (v : AV) : Z4y E hp K v = (match Qtq hp v with
  | some new => K new
  | none => E.fail) := by
 unfold Z4y Qtq
 cases v <;> try rfl
 ·rename_i p; cases p <;> try rfl
  ·simp [V7]
  rename_i es rows;simp only [U0, V7]
  by_cases h0 : es = 1
  ·simp [h0]
  have : Nat.beq es 1 = false := by rw [← No, Bm]; exact h0
  simp [h0, this]
 rename_i es b off n;simp only [Q24, Q1v, U0, Q4s]
 cases hp[b]? with
 | none => rfl
 | some o =>
  cases o <;> try rfl
  rename_i cs
  by_cases h0 : es = 1
  ·simp only [h0, if_true, Nat.beq_refl];cases Q4h n (cs.drop off) <;> rfl
  have : Nat.beq es 1 = false := by rw [← No, Bm]; exact h0
  simp [h0, this]
theorem Qdy (tm : List AV) (hp : List AObj) (k : AV → List AObj → α) (esz bytes : Nat) (s x : Opd) : Q86 E tm hp k esz bytes s x = fin E hp k (Qgr hp hp.length esz bytes (Q6 tm s) (Q6 tm x)) := by
 simp only [Qgr, Q86, Qx, Q24, U0, Z13, V7, Q1v, Q4s]
 cases Q6 tm x <;> try rfl
 ·rename_i v; cases v <;> try rfl
  ·rename_i b
   by_cases h0 : esz = 1
   ·simp [h0]
   have : Nat.beq esz 1 = false := by rw [← No, Bm]; exact h0
   simp [h0, this, Qjq]
  rename_i es rows
  by_cases h0 : es = esz
  ·simp [h0]
  have : Nat.beq es esz = false := by rw [← No, Bm]; exact h0
  simp [h0, this, Qjq]
 rename_i es b off n;simp only []
 cases hp[b]? with
 | none => rfl
 | some o =>
  cases o <;> try rfl
  rename_i cs
  by_cases h0 : es = esz
  ·simp only [h0, if_true, Gs, Nat.beq_refl];cases Q4h (n * esz) (cs.drop off) <;> rfl
  have : Nat.beq es esz = false := by rw [← No, Bm]; exact h0
  simp [h0, this, Qjq]
theorem Qf1 (tm : List AV) (hp : List AObj) (k : AV → List AObj → α) (c : COp) (hc : c.isCall = false) :
  G9 E tm hp k c = fin E hp k (Qu E.glob tm hp hp.length c) := by
 cases c with
 | call f args => cases hc
 | callv f args => cases hc
 | move x => simp only [G9, Qu, Qup, Qx]; rfl
 | pick c a b =>
  simp only [G9, Qu, Qsj, Qx, Q3d]
  cases Q6 tm c <;> try rfl
  rename_i v; cases v <;> try rfl
  rename_i b; cases b <;> rfl
 | alloc z => simp only [G9, Qu, Qob, V7, Q7g, Qis, Q45]
 | box x =>
  simp only [G9, Qu, Qy7, Qx, Qf0, Q7g, Qub, Qis, Q45]
  cases (Q6 tm x).cells? <;> rfl
 | build z ps =>
  simp only [G9, Qu, Qp1, V7, Qjj, Gs];cases Q7f tm (z.map AV.p) ps <;> rfl
 | buildSlice z len esz ps =>
  simp only [G9, Qu, Qcg, V7, Qjj, Q7g, Qub, Qis, Q45];cases Q7f tm ((List.replicate len z).flatten.map AV.p) ps <;> rfl
 | load n agg x =>
  simp only [G9, Qu, Qth, Qx, Qar, Q4s, Q1w, Gs]
  cases Q11 E.glob hp (Q6 tm x) with
  | none => rfl
  | some cs =>
   simp only []
   cases Q4h n cs with
   | none => rfl
   | some cs => simp only []; cases sOf agg cs <;> rfl
 | store n x y =>
  simp only [G9, Qu, Qoe, Qx, Q24, Qf0, U0, Q9j, Q8i]
  cases Q6 tm x <;> try rfl
  rename_i a off;simp only []
  cases hp[a]? with
  | none => rfl
  | some o =>
   cases o <;> try rfl
   rename_i cs;simp only []
   cases (Q6 tm y).cells? with
   | none => rfl
   | some v =>
    simp only []
    by_cases h1 : v.length = n <;> by_cases h2 : off + n ≤ cs.length <;> simp [h1, h2, fin, Q8t]
 | nilCheck x =>
  simp only [G9, Qu, Qfl, Qx]
  cases Q6 tm x <;> try rfl
  ·rename_i v; cases v <;> try rfl
   rename_i fn a b; cases fn <;> rfl
  rename_i fn a b; cases fn <;> rfl
 | ari op x y =>
  simp only [G9, Qu, Qyv, Qx]
  cases Q6 tm x <;> try rfl
  rename_i v
  cases v <;> try rfl
  ·simp only []
   cases Q6 tm y <;> try rfl
   rename_i v
   cases v <;> try rfl
   simp only [Z0d, U0];rename_i i x j y;cases Qhy op i j
   ·rfl
   simp only [if_true, Gs];cases Qz4 op i x y <;> rfl
  simp only []
  cases Q6 tm y <;> try rfl
  rename_i v
  cases v <;> try rfl
  cases op <;> try rfl
  simp only [U0];rename_i s t
  by_cases h : s.length + t.length ≤ 4611686018427387904 <;> simp [h, fin, Qi, Vy]
 | cmp op x y =>
  simp only [G9, Qu, Qyr, Qx, Gs, E.cmp.2, E.scmp.2]
  cases Q6 tm x <;> try rfl
  rename_i v
  cases v <;> try rfl
  ·simp only []
   cases Q6 tm y <;> try rfl
   rename_i v
   cases v <;> try rfl
   rename_i i x j y;simp only [U0, Z22];cases i == j <;> rfl
  simp only []
  cases Q6 tm y <;> try rfl
  rename_i v;cases v <;> rfl
 | eqB neg x y =>
  simp only [G9, Qu, Qyc, Qx]
  cases Q6 tm x <;> try rfl
  rename_i v
  cases v <;> try rfl
  simp only []
  cases Q6 tm y <;> try rfl
  rename_i v
  cases v <;> try rfl
  cases neg <;> rfl
 | eqP neg x y =>
  simp only [G9, Qu, Qy8, Qx]
  cases Q6 tm x <;> try rfl
  ·rename_i v
   cases v <;> try rfl
   simp only []
   cases Q6 tm y <;> try rfl
   rename_i v;cases v <;> rfl
  simp only []
  cases Q6 tm y <;> try rfl
  rename_i v;cases v <;> rfl
 | eqAgg neg kinds x y =>
  simp only [G9, Qu, Qo3, Qx, Qur]
  cases (Q6 tm x).aggs? <;> try rfl
  simp only []
  cases (Q6 tm y).aggs? <;> try rfl
  simp only [Qhu, Gs, Q3d];rename_i cs ds;cases Yt kinds cs ds <;> rfl
 | not x =>
  simp only [G9, Qu, Qyp, Qx]; cases Q6 tm x <;> try rfl
  rename_i v; cases v <;> rfl
 | neg x =>
  simp only [G9, Qu, Qyq, Qx]; cases Q6 tm x <;> try rfl
  rename_i v; cases v <;> rfl
 | conv i x =>
  simp only [G9, Qu, Qtm, Qx]; cases Q6 tm x <;> try rfl
  rename_i v; cases v <;> rfl
 | bytesOf x =>
  simp only [G9, Qu, Qhd, Qx]; cases Q6 tm x <;> try rfl
  rename_i v; cases v <;> try rfl
  simp only [V7, Q7g, fin, Q45]
 | strOf x =>
  simp only [G9, Qu, Qoa, Qx, Q24]
  cases Q6 tm x <;> try rfl
  ·rename_i v; cases v <;> rfl
  rename_i es a off len;simp only []
  cases hp[a]? with
  | none => rfl
  | some o =>
   cases o <;> try rfl
   simp only [Q1v, Q4s, Qfn, Gs];rename_i cs
   cases Q4h len (cs.drop off) with
   | none => rfl
   | some cs => simp only []; cases Qpz cs <;> rfl
 | makeFunc fn a b => simp only [G9, Qu, Qfa, Q0v]; rfl
 | makeMap => simp only [G9, Qu, Qib, Q7g, fin, Q45]
 | bad => rfl
 | sliceZ x =>
  simp only [G9, Qu, Ql7, Qx]
  cases Q6 tm x <;> try rfl
  rename_i v;cases v <;> rfl
 | eqN neg x =>
  simp only [G9, Qu, Qyz, Qx]
  cases Q6 tm x <;> try rfl
  ·rename_i v
   cases v <;> try rfl
   ·cases neg <;> rfl
   rename_i es rows;simp only [U0];cases rows.isEmpty <;> rfl
  rename_i es b off len;simp only [U0]
  by_cases h : 0 < len <;> simp [h, fin, Qi, Vy, Nat.blt_eq]
 | extIx x y =>
  simp only [G9, Qu, Qoy, Qx]
  cases Q6 tm x <;> try rfl
  rename_i v
  cases v <;> try (cases Q6 tm y <;> rfl)
  cases Q6 tm y <;> try rfl
  rename_i u
  cases u <;> try rfl
  rename_i s i c;simp only [U0];cases i == IntKind.u8 <;> rfl
 | rangeS x =>
  simp only [G9, Qu, Qk9, Qx]
  cases Q6 tm x <;> try rfl
  rename_i v
  cases v <;> try rfl
  simp only [Q7g, fin, Q45]
 | nextS x =>
  simp only [G9, Qu, Qp3, Qx, Q24]
  cases Q6 tm x <;> try rfl
  rename_i b o;simp only []
  cases hp[b]? with
  | none => rfl
  | some ob =>
   cases ob <;> try rfl
   rename_i s pos;simp only [U0, Q8i, Q3d]
   by_cases h0 : o = 0
   ·subst h0
    by_cases hl : pos < s.length
    ·simp [hl, fin, Q8t, Nat.blt_eq]
    simp [hl, fin, Qi, Vy, Nat.blt_eq]
   simp [h0, fin]
 | runeStr x =>
  simp only [G9, Qu, Qhs, Qx]
  cases Q6 tm x <;> try rfl
  rename_i v;cases v <;> rfl
 | extCt x y =>
  simp only [G9, Qu, Qpv, Qx]
  cases Q6 tm x <;> try rfl
  rename_i v
  cases v <;> try (cases Q6 tm y <;> rfl)
  cases Q6 tm y <;> try rfl
  rename_i u
  cases u <;> try rfl
  rename_i s i c;simp only [U0];cases i == IntKind.u8 <;> rfl
 | mkIface t x => simp only [G9, Qu, Qi1, Qx]; rfl
 | asserT t z agg ok x =>
  simp only [G9, Qu, Qkq, Qx, Q3d, U0, V7, Q1w]
  have key : ∀ (u : Nat) (v : AV), (if Nat.beq u t = true then if ok = true then k (.tuple [v, .p (.bool true)]) hp else k v hp else if ok = true then (match sOf agg (z.map .p) with
     | some z => k (.tuple [z, .p (.bool false)]) hp
     | none => E.fail) else E.fail) = fin E hp k (if u = t then Qi (if ok then .tuple [v, .p (.bool true)] else v) else if ok = true then (sOf agg (z.map .p)).bind fun z => Qi (.tuple [z, .p (.bool false)]) else none) := by
   intro u v
   by_cases hu : u = t
   ·subst hu; cases ok <;> simp [fin, Qi, Vy]
   have : Nat.beq u t = false := by rw [← No, Bm]; exact hu
   simp only [this, hu, if_false, Lj];cases ok
   ·rfl
   simp only [if_true, Gs]; cases sOf agg (z.map .p) <;> rfl
  cases Q6 tm x <;> try rfl
  ·rename_i v
   cases v <;> try rfl
   exact key _ _
  exact key _ _
 | eqI neg x =>
  simp only [G9, Qu, Qyj, Qx]
  cases Q6 tm x <;> try rfl
  rename_i v
  cases v <;> first | rfl | (cases neg <;> rfl)
 | eqF neg x =>
  simp only [G9, Qu, Qys, Qx]
  cases Q6 tm x <;> try rfl
  rename_i v
  cases v <;> first | rfl | (cases neg <;> rfl)
 | del kk m ke =>
  simp only [G9, Qu, Qyy, Qx, Q24]
  cases Q6 tm m <;> try rfl
  rename_i r;cases Q6 tm ke
  case p kv =>
   simp only []
   cases h : hp[r]? with
   | none => rfl
   | some o =>
    cases o <;> try rfl
    rename_i es;simp only [Q91, U0]
    cases Q3r kk kv with
    | false => rfl
    | true =>
     simp only [if_true, Nr, if_false]
     cases Q81 kv 0 es with
     | none => rfl
     | some r => cases r <;> simp [Q8i, fin, Q8t, Qi, Vy]
  all_goals
   simp only []
   cases h : hp[r]? with
   | none => rfl
   | some o => cases o <;> rfl
 | insert kk m ke v =>
  simp only [G9, Qu, Qm9, Qx, Q24]
  cases Q6 tm m <;> try rfl
  rename_i r;cases Q6 tm ke
  case p kv =>
   simp only []
   cases h : hp[r]? with
   | none => rfl
   | some o =>
    cases o <;> try rfl
    rename_i es;simp only [Q91, U0]
    cases Q3r kk kv with
    | false => rfl
    | true =>
     simp only [if_true, Nr, if_false]
     cases Q81 kv 0 es with
     | none => rfl
     | some r => cases r <;> simp [Q8i, Q2s, fin, Q8t]
  all_goals
   simp only []
   cases h : hp[r]? with
   | none => rfl
   | some o => cases o <;> rfl
 | lookup kk z agg ok m ke =>
  simp only [G9, Qu, Ql8, Qx, Q24];cases Q6 tm m
  case map r =>
   cases Q6 tm ke
   case p kv =>
    simp only []
    cases h : hp[r]? with
    | none => rfl
    | some o =>
     cases o <;> try rfl
     rename_i es;simp only [Q91, U0]
     cases Q3r kk kv with
     | false => rfl
     | true =>
      simp only [if_true, Nr, if_false]
      cases Q81 kv 0 es with
      | none => rfl
      | some r =>
       cases r with
       | none =>
        simp only [V7, Q1w, Gs];cases sOf agg (z.map AV.p) <;> cases ok <;> rfl
       | some r => cases ok <;> rfl
   all_goals
    simp only []
    cases h : hp[r]? with
    | none => rfl
    | some o => cases o <;> rfl
  case p mv =>
   cases mv <;> try (cases Q6 tm ke <;> rfl)
   rename_i ps
   cases Q6 tm ke <;> try rfl
   rename_i kv;simp only [U0, Qew]
   cases Q3r kk kv with
   | false => rfl
   | true =>
    simp only [if_true, Nr, if_false]
    cases Qlx kv ps with
    | none => rfl
    | some r =>
     cases r with
     | none =>
      simp only [V7, Q1w, Gs];cases sOf agg (z.map AV.p) <;> cases ok <;> rfl
     | some r => cases ok <;> rfl
  all_goals (cases Q6 tm ke <;> rfl)
 | makeSlice z bytes l c =>
  simp only [G9, Qu, Qdz, Qx]
  cases Q6 tm l <;> try rfl
  rename_i v; cases v <;> try rfl
  simp only []
  cases Q6 tm c <;> try rfl
  rename_i v; cases v <;> try rfl
  simp only [U0, V7, Q7g];rename_i l _ c
  by_cases h1 : 0 ≤ l <;> by_cases h2 : l ≤ c <;> by_cases h3 : c * bytes ≤ 1099511627776 <;> simp [h1, h2, h3, fin, Q45]
 | sliceStr x lo hi =>
  simp only [G9, Qu, Qft, Qx, Qns, Qj5, U0]
  cases Q6 tm x <;> try rfl
  rename_i v; cases v <;> try rfl
  rename_i s;simp only []
  cases Qdm 0 (lo.map (Q6 tm)) <;> try rfl
  rename_i l;simp only []
  cases Qdm s.length (hi.map (Q6 tm)) <;> try rfl
  rename_i h
  by_cases h1 : l ≤ h <;> by_cases h2 : h ≤ s.length <;> simp [h1, h2, fin, Qi, Vy]
 | slice esz x lo hi =>
  simp only [G9, Qu, Qow, Qx, Qns, Qj5, U0]
  cases Q6 tm x <;> try rfl
  ·rename_i v; cases v <;> try rfl
   rename_i es s;simp only []
   cases Qdm 0 (lo.map (Q6 tm)) <;> try rfl
   rename_i l;simp only []
   cases Qdm s.length (hi.map (Q6 tm)) <;> try rfl
   rename_i h
   by_cases h0 : es = esz <;> by_cases h1 : l ≤ h <;> by_cases h2 : h ≤ s.length <;> simp [h0, h1, h2, fin, Qi, Vy]
  rename_i es a off s;simp only []
  cases Qdm 0 (lo.map (Q6 tm)) <;> try rfl
  rename_i l;simp only []
  cases Qdm s (hi.map (Q6 tm)) <;> try rfl
  rename_i h
  by_cases h0 : es = esz <;> by_cases h1 : l ≤ h <;> by_cases h2 : h ≤ s <;> simp [h0, h1, h2, fin, Qi, Vy]
 | sliceArr n esz x lo hi =>
  simp only [G9, Qu, Qgp, Qx, Qns, Qj5, U0, Q24]
  cases Q6 tm x <;> try rfl
  rename_i a off;simp only []
  cases hp[a]? with
  | none => rfl
  | some o =>
   cases o <;> try rfl
   rename_i cs;simp only []
   cases Qdm 0 (lo.map (Q6 tm)) <;> try rfl
   rename_i l;simp only []
   cases Qdm n (hi.map (Q6 tm)) <;> try rfl
   rename_i h
   by_cases h0 : off + n * esz ≤ cs.length <;> by_cases h1 : l ≤ h <;> by_cases h2 : h ≤ n <;> simp [h0, h1, h2, fin, Qi, Vy]
 | fieldAddr x off => simp only [G9, Qu, Qe0, Qx, Q1v]; cases Q6 tm x <;> rfl
 | field x off n agg =>
  simp only [G9, Qu, Qou, Qx, Qur]
  cases (Q6 tm x).aggs? <;> try rfl
  simp only [Q1v, Q4s, Q1w, Gs];rename_i cs
  cases Q4h n (cs.drop off) with
  | none => rfl
  | some cs => simp only []; cases sOf agg cs <;> rfl
 | indexAddr esz x i =>
  simp only [G9, Qu, Qdw, Qx, U0, Qv8]
  cases Q6 tm x <;> try rfl
  ·rename_i v; cases v <;> try rfl
   simp only []
   cases Q6 tm i <;> try rfl
   rename_i v; cases v <;> try rfl
   rename_i es rows _ n
   by_cases h0 : es = esz <;> cases hi : idx rows n <;> simp [h0, hi, fin, Qi, Vy]
  simp only []
  cases Q6 tm i <;> try rfl
  rename_i v; cases v <;> try rfl
  rename_i es a off len _ n
  by_cases h1 : 0 ≤ n <;> by_cases h2 : n < len <;> simp [h1, h2, fin, Qi, Vy]
 | indexArr len esz x i =>
  simp only [G9, Qu, Qey, Qx, U0]
  cases Q6 tm x <;> try rfl
  all_goals
   simp only []
   cases Q6 tm i <;> try rfl
   rename_i v; cases v <;> try rfl
   rename_i n
   by_cases h1 : 0 ≤ n <;> by_cases h2 : n < len <;> simp [h1, h2, fin, Qi, Vy]
 | indexStr x i =>
  simp only [G9, Qu, Qf9, Qx, Qv8]
  cases Q6 tm x <;> try rfl
  rename_i v; cases v <;> try rfl
  simp only []
  cases Q6 tm i <;> try rfl
  rename_i v; cases v <;> try rfl
  simp only [Gs];rename_i s _ n;cases idx s n <;> rfl
 | extract x i =>
  simp only [G9, Qu, Qic, Qx]
  cases Q6 tm x <;> try rfl
  ·rename_i v; cases v <;> try rfl
   rename_i vs;simp only [Gs];cases vs[i]? <;> rfl
  rename_i vs;simp only [Gs];cases vs[i]? <;> rfl
 | lenStr x =>
  simp only [G9, Qu, Qm3, Qx]
  cases Q6 tm x <;> try rfl
  rename_i v; cases v <;> rfl
 | lenSl x =>
  simp only [G9, Qu, Qpu, Qx]
  cases Q6 tm x <;> try rfl
  rename_i v; cases v <;> rfl
 | lenMap x =>
  simp only [G9, Qu, Qlj, Qx, Q24]
  cases Q6 tm x <;> try rfl
  ·rename_i v; cases v <;> rfl
  rename_i r;simp only []
  cases hp[r]? with
  | none => rfl
  | some o => cases o <;> rfl
 | append esz bytes s x => simp only [G9, Qu]; exact Qdy ..
 | appendT esz bytes s x =>
  simp only [G9, Qu, Qhg, Qx, Qdy, Qnw]
  cases hs : Q6 tm s <;> try rfl
  rename_i es a off len;simp only [Q24, U0, Qc8, Q8i]
  cases hp[a]? with
  | none => rfl
  | some o =>
   cases o <;> try rfl
   rename_i cs;simp only []
   by_cases h0 : off + len * esz ≤ cs.length
   ·have h1 : Nat.ble (off + len * esz) cs.length = true := by simpa using h0
    rw [h1, if_pos h0, if_pos rfl];rw [Nz]
    cases hq : Qgr (hp.set a (.cells (cs.take (off + len * esz)))) hp.length esz bytes (.slice es a off len) (Q6 tm x) with
    | none => rfl
    | some q =>
     obtain ⟨v, e⟩ := q;show k v (e.apply (hp.set a (.cells (cs.take (off + len * esz)))) (hp.set a (.cells (cs.take (off + len * esz)))).length) = k v ((e.pre a (.cells (cs.take (off + len * esz)))).apply hp hp.length);rw [Ql3 (Qmk hq), Nz]
   have h1 : Nat.ble (off + len * esz) cs.length = false := by rw [← No, Lk]; exact h0
   rw [h1, if_neg h0]; rfl
 | copyB d s =>
  have hc : ∀ new, (match Q6 tm d with
    | .p .nilSlice => k (.p (.int .i64 0)) hp
    | .slice es a off len => Qm1 E hp a fun
     | .cells cs => chk E (Nat.beq es 1 && (Nat.ble (off + len) cs.length && Nat.ble 1 len))
      (Qgl len new cs off fun n cs => Qrw hp a (.cells cs) fun hp => k (.p (.int .i64 n)) hp)
     | _ => E.fail
    | _ => E.fail) = fin E hp k (Qn4 hp (Q6 tm d) new) := fun new => by
   simp only [Q24, U0, Qgl, Qc8, Qip, Q9j, Q8i, Qn4]
   cases Q6 tm d <;> try rfl
   ·rename_i v; cases v <;> rfl
   rename_i es a off len;simp only []
   cases hp[a]? with
   | none => rfl
   | some o =>
    cases o <;> try rfl
    rename_i cs;simp only []
    by_cases h1 : es = 1 <;> by_cases h2 : off + len ≤ cs.length <;> by_cases h3 : 1 ≤ len <;> simp [h1, h2, h3, fin, Q8t] <;> omega
  simp only [G9, Qu, Qpl, Qx, Z18]
  cases Qtq hp (Q6 tm s) with
  | none => rfl
  | some new => exact hc new
 | max x y =>
  simp only [G9, Qu, Qyb, Qx, Q3d]
  cases Q6 tm x <;> try rfl
  rename_i v; cases v <;> try rfl
  simp only []
  cases Q6 tm y <;> try rfl
  rename_i v; cases v <;> try rfl
  simp [fin, Qi, Vy]
 | min x y =>
  simp only [G9, Qu, Qye, Qx, Q3d]
  cases Q6 tm x <;> try rfl
  rename_i v; cases v <;> try rfl
  simp only []
  cases Q6 tm y <;> try rfl
  rename_i v; cases v <;> try rfl
  simp [fin, Qi, Vy]
end
end
end Go.Av
