/- Part of the proof of CrossBack: for every input the law returns true; no condition. -/
import Derived.Test.YthdffmbnmkmhlaaGreatDoorAvStep
namespace Go.Av
noncomputable section
universe u
section
variable {α : Type u} (E : Env α)
def fin (E : Env α) (hp : List AObj) (k : AV → List AObj → α) : Option (AV × Eff) → α
 | some (v, e) => k v (e.apply hp hp.length)
 | none => E.fail
theorem Qib (hp : List AObj) (k : AV → List AObj → α) : fin E hp k none = E.fail := rfl
theorem Qip (hp : List AObj) (k : AV → List AObj → α) (v : AV) (e : Eff) : fin E hp k (some (v, e)) = k v (e.apply hp hp.length) := rfl
theorem Gj {β : Type} (hp : List AObj) (k : AV → List AObj → α) (o : Option β) (f : β → Option (AV × Eff)) : fin E hp k (o.bind f) = (match o with
  | some b => fin E hp k (f b)
  | none => E.fail) := by cases o <;> rfl
theorem Qtf {β : Type} (hp : List AObj) (k : AV → List AObj → α) (o : Option β) (f : β → AV × Eff) : fin E hp k (o.map f) = (match o with
  | some b => fin E hp k (some (f b))
  | none => E.fail) := by cases o <;> rfl
theorem Q2q (hp : List AObj) (o : AObj) : ({ new := some o } : Eff).apply hp hp.length = hp ++ [o] := by simp [Eff.apply, plc]
theorem Q7h (hp : List AObj) (n : Nat) (a : Nat) (o : AObj) : ({ set := some (a, o) } : Eff).apply hp n = hp.set a o := by simp [Eff.apply]
theorem Qq1 (hp : List AObj) (a : Nat) (o o' : AObj) : ({ set := some (a, o), new := some o' } : Eff).apply hp hp.length = hp.set a o ++ [o'] := by simp [Eff.apply, plc]
theorem U0 (hp : List AObj) (n : Nat) : ({} : Eff).apply hp n = hp := rfl

theorem Qzf (hp : List AObj) (esz bytes : Nat) (s : AV) (new : List AV) (n : Nat) (k : AV → List AObj → α) :
  Qyi E hp esz bytes s new n k = fin E hp k (Qga hp hp.length esz bytes s new n) := by
 unfold Qyi Qga
 by_cases hn : n = 0
 ·subst hn;simp only [ifB, if_true]
  cases s with
  | p v => cases v <;> rfl
  | _ => rfl
 ·have : Nat.beq n 0 = false := by cases n <;> first | rfl | simp_all
  simp only [this, ifB, hn, if_false]
  cases s with
  | p v =>
   cases v <;> (try rfl) <;>
   (by_cases h3 : (n + 4096) * bytes ≤ 17592186044416 <;> simp [U3, Q5x, h3, fin, Q2q])
  | slice es a off len =>
   simp only [Q10]
   cases h : hp[a]? with
   | none => rfl
   | some o =>
    cases o <;> simp only [U3, Q0r, Q1n, Q73, Q5x, fin] <;> (try rfl)
    by_cases h1 : es = esz <;> rename_i cs <;> by_cases h2 : off + len * esz = cs.length <;> by_cases h3 : (len + n + 4096) * bytes ≤ 17592186044416 <;> simp [h1, h2, h3, Qq1, List.length_set]
  | _ => rfl

theorem Z01 (hp : List AObj) (K : List AV → α) (v : AV) : Z5b E hp K v = (match Qsc hp v with
  | some new => K new
  | none => E.fail) := by
 unfold Z5b Qsc
 cases v <;> try rfl
 ·rename_i p; cases p <;> try rfl
  ·simp [U9]
  rename_i es rows;simp only [U3, U9]
  by_cases h0 : es = 1
  ·simp [h0]
  have : Nat.beq es 1 = false := by rw [← Nt, Bw]; exact h0
  simp [h0, this]
 rename_i es b off n;simp only [Q10, Q0r, U3, Q3b]
 cases hp[b]? with
 | none => rfl
 | some o =>
  cases o <;> try rfl
  rename_i cs
  by_cases h0 : es = 1
  ·simp only [h0, if_true, Dg];cases Q32 n (cs.drop off) <;> rfl
  have : Nat.beq es 1 = false := by rw [← Nt, Bw]; exact h0
  simp [h0, this]
theorem Qbz (tm : List AV) (hp : List AObj) (k : AV → List AObj → α) (esz bytes : Nat) (s x : Opd) : Q7q E tm hp k esz bytes s x = fin E hp k (Qfg hp hp.length esz bytes (Q4 tm s) (Q4 tm x)) := by
 simp only [Qfg, Q7q, Qs, Q10, U3, Qzf, U9, Q0r, Q3b]
 cases Q4 tm x <;> try rfl
 ·rename_i v; cases v <;> try rfl
  ·rename_i b
   by_cases h0 : esz = 1
   ·simp [h0]
   have : Nat.beq esz 1 = false := by rw [← Nt, Bw]; exact h0
   simp [h0, this, Qib]
  rename_i es rows
  by_cases h0 : es = esz
  ·simp [h0]
  have : Nat.beq es esz = false := by rw [← Nt, Bw]; exact h0
  simp [h0, this, Qib]
 rename_i es b off n;simp only []
 cases hp[b]? with
 | none => rfl
 | some o =>
  cases o <;> try rfl
  rename_i cs
  by_cases h0 : es = esz
  ·simp only [h0, if_true, Gj, Dg];cases Q32 (n * esz) (cs.drop off) <;> rfl
  have : Nat.beq es esz = false := by rw [← Nt, Bw]; exact h0
  simp [h0, this, Qib]
theorem Qex (tm : List AV) (hp : List AObj) (k : AV → List AObj → α) (c : COp) (hc : c.isCall = false) :
  Gb E tm hp k c = fin E hp k (Qr E.glob tm hp hp.length c) := by
 cases c with
 | call f args => cases hc
 | callv f args => cases hc
 | move x => simp only [Gb, Qr, Qt5, Qs]; rfl
 | pick c a b =>
  simp only [Gb, Qr, Qsg, Qs, Q2a]
  cases Q4 tm c <;> try rfl
  rename_i v; cases v <;> try rfl
  rename_i b; cases b <;> rfl
 | alloc z => simp only [Gb, Qr, Qo3, U9, Q5x, Qip, Q2q]
 | box x =>
  simp only [Gb, Qr, Qyt, Qs, Qfc, Q5x, Qtf, Qip, Q2q]
  cases (Q4 tm x).cells? <;> rfl
 | build z ps =>
  simp only [Gb, Qr, Qpl, U9, Qi4, Gj];cases Q5u tm (z.map AV.p) ps <;> rfl
 | buildSlice z len esz ps =>
  simp only [Gb, Qr, Qb0, U9, Qi4, Q5x, Qtf, Qip, Q2q];cases Q5u tm ((List.replicate len z).flatten.map AV.p) ps <;> rfl
 | load n agg x =>
  simp only [Gb, Qr, Quo, Qs, Q8u, Q3b, Q11, Gj]
  cases Q0f E.glob hp (Q4 tm x) with
  | none => rfl
  | some cs =>
   simp only []
   cases Q32 n cs with
   | none => rfl
   | some cs => simp only []; cases sOf agg cs <;> rfl
 | store n x y =>
  simp only [Gb, Qr, Qnt, Qs, Q10, Qfc, U3, Q8b, Q73]
  cases Q4 tm x <;> try rfl
  rename_i a off;simp only []
  cases hp[a]? with
  | none => rfl
  | some o =>
   cases o <;> try rfl
   rename_i cs;simp only []
   cases (Q4 tm y).cells? with
   | none => rfl
   | some v =>
    simp only []
    by_cases h1 : v.length = n <;> by_cases h2 : off + n ≤ cs.length <;> simp [h1, h2, fin, Q7h]
 | nilCheck x =>
  simp only [Gb, Qr, Qew, Qs]
  cases Q4 tm x <;> try rfl
  ·rename_i v; cases v <;> try rfl
   rename_i fn a b; cases fn <;> rfl
  rename_i fn a b; cases fn <;> rfl
 | ari op x y =>
  simp only [Gb, Qr, Qyh, Qs]
  cases Q4 tm x <;> try rfl
  rename_i v
  cases v <;> try rfl
  ·simp only []
   cases Q4 tm y <;> try rfl
   rename_i v
   cases v <;> try rfl
   simp only [Qzv, U3];rename_i i x j y;cases Qg9 op i j
   ·rfl
   simp only [if_true, Gj];cases Z03 op i x y <;> rfl
  simp only []
  cases Q4 tm y <;> try rfl
  rename_i v
  cases v <;> try rfl
  cases op <;> try rfl
  simp only [U3];rename_i s t
  by_cases h : s.length + t.length ≤ 4611686018427387904 <;> simp [h, fin, Qi, U0]
 | cmp op x y =>
  simp only [Gb, Qr, Qye, Qs, Gj, E.cmp.2, E.scmp.2]
  cases Q4 tm x <;> try rfl
  rename_i v
  cases v <;> try rfl
  ·simp only []
   cases Q4 tm y <;> try rfl
   rename_i v
   cases v <;> try rfl
   rename_i i x j y;simp only [U3, Z28];cases i == j <;> rfl
  simp only []
  cases Q4 tm y <;> try rfl
  rename_i v;cases v <;> rfl
 | eqB neg x y =>
  simp only [Gb, Qr, Qy7, Qs]
  cases Q4 tm x <;> try rfl
  rename_i v
  cases v <;> try rfl
  simp only []
  cases Q4 tm y <;> try rfl
  rename_i v
  cases v <;> try rfl
  cases neg <;> rfl
 | eqP neg x y =>
  simp only [Gb, Qr, Qy0, Qs]
  cases Q4 tm x <;> try rfl
  ·rename_i v
   cases v <;> try rfl
   simp only []
   cases Q4 tm y <;> try rfl
   rename_i v;cases v <;> rfl
  simp only []
  cases Q4 tm y <;> try rfl
  rename_i v;cases v <;> rfl
 | eqAgg neg kinds x y =>
  simp only [Gb, Qr, Qnl, Qs, Qs5]
  cases (Q4 tm x).aggs? <;> try rfl
  simp only []
  cases (Q4 tm y).aggs? <;> try rfl
  simp only [Qhe, Gj, Q2a];rename_i cs ds;cases X5 kinds cs ds <;> rfl
 | not x =>
  simp only [Gb, Qr, Qyq, Qs]; cases Q4 tm x <;> try rfl
  rename_i v; cases v <;> rfl
 | neg x =>
  simp only [Gb, Qr, Qy5, Qs]; cases Q4 tm x <;> try rfl
  rename_i v; cases v <;> rfl
 | conv i x =>
  simp only [Gb, Qr, Qu9, Qs]; cases Q4 tm x <;> try rfl
  rename_i v; cases v <;> rfl
 | bytesOf x =>
  simp only [Gb, Qr, Qgi, Qs]; cases Q4 tm x <;> try rfl
  rename_i v; cases v <;> try rfl
  simp only [U9, Q5x, fin, Q2q]
 | strOf x =>
  simp only [Gb, Qr, Qoe, Qs, Q10]
  cases Q4 tm x <;> try rfl
  ·rename_i v; cases v <;> rfl
  rename_i es a off len;simp only []
  cases hp[a]? with
  | none => rfl
  | some o =>
   cases o <;> try rfl
   simp only [Q0r, Q3b, Qdh, Gj];rename_i cs
   cases Q32 len (cs.drop off) with
   | none => rfl
   | some cs => simp only []; cases Qo2 cs <;> rfl
 | makeFunc fn a b => simp only [Gb, Qr, Qds, Q0c]; rfl
 | makeMap => simp only [Gb, Qr, Qh2, Q5x, fin, Q2q]
 | bad => rfl
 | sliceZ x =>
  simp only [Gb, Qr, Qlo, Qs]
  cases Q4 tm x <;> try rfl
  rename_i v;cases v <;> rfl
 | eqN neg x =>
  simp only [Gb, Qr, Qyx, Qs]
  cases Q4 tm x <;> try rfl
  ·rename_i v
   cases v <;> try rfl
   ·cases neg <;> rfl
   rename_i es rows;simp only [U3];cases rows.isEmpty <;> rfl
  rename_i es b off len;simp only [U3]
  by_cases h : 0 < len <;> simp [h, fin, Qi, U0, Nat.blt_eq]
 | extIx x y =>
  simp only [Gb, Qr, Qp7, Qs]
  cases Q4 tm x <;> try rfl
  rename_i v
  cases v <;> try (cases Q4 tm y <;> rfl)
  cases Q4 tm y <;> try rfl
  rename_i u
  cases u <;> try rfl
  rename_i s i c;simp only [U3];cases i == IntKind.u8 <;> rfl
 | rangeS x =>
  simp only [Gb, Qr, Qlq, Qs]
  cases Q4 tm x <;> try rfl
  rename_i v
  cases v <;> try rfl
  simp only [Q5x, fin, Q2q]
 | nextS x =>
  simp only [Gb, Qr, Qol, Qs, Q10]
  cases Q4 tm x <;> try rfl
  rename_i b o;simp only []
  cases hp[b]? with
  | none => rfl
  | some ob =>
   cases ob <;> try rfl
   rename_i s pos;simp only [U3, Q73, Q2a]
   by_cases h0 : o = 0
   ·subst h0
    by_cases hl : pos < s.length
    ·simp [hl, fin, Q7h, Nat.blt_eq]
    simp [hl, fin, Qi, U0, Nat.blt_eq]
   simp [h0, fin]
 | runeStr x =>
  simp only [Gb, Qr, Qh6, Qs]
  cases Q4 tm x <;> try rfl
  rename_i v;cases v <;> rfl
 | extCt x y =>
  simp only [Gb, Qr, Qoa, Qs]
  cases Q4 tm x <;> try rfl
  rename_i v
  cases v <;> try (cases Q4 tm y <;> rfl)
  cases Q4 tm y <;> try rfl
  rename_i u
  cases u <;> try rfl
  rename_i s i c;simp only [U3];cases i == IntKind.u8 <;> rfl
 | mkIface t x => simp only [Gb, Qr, Qg1, Qs]; rfl
 | asserT t z agg ok x =>
  simp only [Gb, Qr, Ql8, Qs, Q2a, U3, U9, Q11]
  have key : ∀ (u : Nat) (v : AV), (if Nat.beq u t = true then if ok = true then k (.tuple [v, .p (.bool true)]) hp else k v hp else if ok = true then (match sOf agg (z.map .p) with
     | some z => k (.tuple [z, .p (.bool false)]) hp
     | none => E.fail) else E.fail) = fin E hp k (if u = t then Qi (if ok then .tuple [v, .p (.bool true)] else v) else if ok = true then (sOf agg (z.map .p)).bind fun z => Qi (.tuple [z, .p (.bool false)]) else none) := by
   intro u v
   by_cases hu : u = t
   ·subst hu; cases ok <;> simp [fin, Qi, U0]
   have : Nat.beq u t = false := by rw [← Nt, Bw]; exact hu
   simp only [this, hu, if_false, Lf];cases ok
   ·rfl
   simp only [if_true, Gj]; cases sOf agg (z.map .p) <;> rfl
  cases Q4 tm x <;> try rfl
  ·rename_i v
   cases v <;> try rfl
   exact key _ _
  exact key _ _
 | eqI neg x =>
  simp only [Gb, Qr, Qy4, Qs]
  cases Q4 tm x <;> try rfl
  rename_i v
  cases v <;> first | rfl | (cases neg <;> rfl)
 | eqF neg x =>
  simp only [Gb, Qr, Qy6, Qs]
  cases Q4 tm x <;> try rfl
  rename_i v
  cases v <;> first | rfl | (cases neg <;> rfl)
 | del kk m ke =>
  simp only [Gb, Qr, Qyv, Qs, Q10]
  cases Q4 tm m <;> try rfl
  rename_i r;cases Q4 tm ke
  case p kv =>
   simp only []
   cases h : hp[r]? with
   | none => rfl
   | some o =>
    cases o <;> try rfl
    rename_i es;simp only [Q82, U3]
    cases Q2k kk kv with
    | false => rfl
    | true =>
     simp only [if_true, Me, if_false]
     cases Q6v kv 0 es with
     | none => rfl
     | some r => cases r <;> simp [Q73, fin, Q7h, Qi, U0]
  all_goals
   simp only []
   cases h : hp[r]? with
   | none => rfl
   | some o => cases o <;> rfl
 | insert kk m ke v =>
  simp only [Gb, Qr, Qjn, Qs, Q10]
  cases Q4 tm m <;> try rfl
  rename_i r;cases Q4 tm ke
  case p kv =>
   simp only []
   cases h : hp[r]? with
   | none => rfl
   | some o =>
    cases o <;> try rfl
    rename_i es;simp only [Q82, U3]
    cases Q2k kk kv with
    | false => rfl
    | true =>
     simp only [if_true, Me, if_false]
     cases Q6v kv 0 es with
     | none => rfl
     | some r => cases r <;> simp [Q73, Q1n, fin, Q7h]
  all_goals
   simp only []
   cases h : hp[r]? with
   | none => rfl
   | some o => cases o <;> rfl
 | lookup kk z agg ok m ke =>
  simp only [Gb, Qr, Qle, Qs, Q10];cases Q4 tm m
  case map r =>
   cases Q4 tm ke
   case p kv =>
    simp only []
    cases h : hp[r]? with
    | none => rfl
    | some o =>
     cases o <;> try rfl
     rename_i es;simp only [Q82, U3]
     cases Q2k kk kv with
     | false => rfl
     | true =>
      simp only [if_true, Me, if_false]
      cases Q6v kv 0 es with
      | none => rfl
      | some r =>
       cases r with
       | none =>
        simp only [U9, Q11, Gj];cases sOf agg (z.map AV.p) <;> cases ok <;> rfl
       | some r => cases ok <;> rfl
   all_goals
    simp only []
    cases h : hp[r]? with
    | none => rfl
    | some o => cases o <;> rfl
  case p mv =>
   cases mv <;> try (cases Q4 tm ke <;> rfl)
   rename_i ps
   cases Q4 tm ke <;> try rfl
   rename_i kv;simp only [U3, Qhj]
   cases Q2k kk kv with
   | false => rfl
   | true =>
    simp only [if_true, Me, if_false]
    cases Qk6 kv ps with
    | none => rfl
    | some r =>
     cases r with
     | none =>
      simp only [U9, Q11, Gj];cases sOf agg (z.map AV.p) <;> cases ok <;> rfl
     | some r => cases ok <;> rfl
  all_goals (cases Q4 tm ke <;> rfl)
 | makeSlice z bytes l c =>
  simp only [Gb, Qr, Qc5, Qs]
  cases Q4 tm l <;> try rfl
  rename_i v; cases v <;> try rfl
  simp only []
  cases Q4 tm c <;> try rfl
  rename_i v; cases v <;> try rfl
  simp only [U3, U9, Q5x];rename_i l _ c
  by_cases h1 : 0 ≤ l <;> by_cases h2 : l ≤ c <;> by_cases h3 : c * bytes ≤ 1099511627776 <;> simp [h1, h2, h3, fin, Q2q]
 | sliceStr x lo hi =>
  simp only [Gb, Qr, Qdw, Qs, Qn6, Qia, U3]
  cases Q4 tm x <;> try rfl
  rename_i v; cases v <;> try rfl
  rename_i s;simp only []
  cases Qce 0 (lo.map (Q4 tm)) <;> try rfl
  rename_i l;simp only []
  cases Qce s.length (hi.map (Q4 tm)) <;> try rfl
  rename_i h
  by_cases h1 : l ≤ h <;> by_cases h2 : h ≤ s.length <;> simp [h1, h2, fin, Qi, U0]
 | slice esz x lo hi =>
  simp only [Gb, Qr, Qp9, Qs, Qn6, Qia, U3]
  cases Q4 tm x <;> try rfl
  ·rename_i v; cases v <;> try rfl
   rename_i es s;simp only []
   cases Qce 0 (lo.map (Q4 tm)) <;> try rfl
   rename_i l;simp only []
   cases Qce s.length (hi.map (Q4 tm)) <;> try rfl
   rename_i h
   by_cases h0 : es = esz <;> by_cases h1 : l ≤ h <;> by_cases h2 : h ≤ s.length <;> simp [h0, h1, h2, fin, Qi, U0]
  rename_i es a off s;simp only []
  cases Qce 0 (lo.map (Q4 tm)) <;> try rfl
  rename_i l;simp only []
  cases Qce s (hi.map (Q4 tm)) <;> try rfl
  rename_i h
  by_cases h0 : es = esz <;> by_cases h1 : l ≤ h <;> by_cases h2 : h ≤ s <;> simp [h0, h1, h2, fin, Qi, U0]
 | sliceArr n esz x lo hi =>
  simp only [Gb, Qr, Qf8, Qs, Qn6, Qia, U3, Q10]
  cases Q4 tm x <;> try rfl
  rename_i a off;simp only []
  cases hp[a]? with
  | none => rfl
  | some o =>
   cases o <;> try rfl
   rename_i cs;simp only []
   cases Qce 0 (lo.map (Q4 tm)) <;> try rfl
   rename_i l;simp only []
   cases Qce n (hi.map (Q4 tm)) <;> try rfl
   rename_i h
   by_cases h0 : off + n * esz ≤ cs.length <;> by_cases h1 : l ≤ h <;> by_cases h2 : h ≤ n <;> simp [h0, h1, h2, fin, Qi, U0]
 | fieldAddr x off => simp only [Gb, Qr, Qch, Qs, Q0r]; cases Q4 tm x <;> rfl
 | field x off n agg =>
  simp only [Gb, Qr, Qpn, Qs, Qs5]
  cases (Q4 tm x).aggs? <;> try rfl
  simp only [Q0r, Q3b, Q11, Gj];rename_i cs
  cases Q32 n (cs.drop off) with
  | none => rfl
  | some cs => simp only []; cases sOf agg cs <;> rfl
 | indexAddr esz x i =>
  simp only [Gb, Qr, Qcc, Qs, U3, Qva]
  cases Q4 tm x <;> try rfl
  ·rename_i v; cases v <;> try rfl
   simp only []
   cases Q4 tm i <;> try rfl
   rename_i v; cases v <;> try rfl
   rename_i es rows _ n
   by_cases h0 : es = esz <;> cases hi : idx rows n <;> simp [h0, hi, fin, Qi, U0]
  simp only []
  cases Q4 tm i <;> try rfl
  rename_i v; cases v <;> try rfl
  rename_i es a off len _ n
  by_cases h1 : 0 ≤ n <;> by_cases h2 : n < len <;> simp [h1, h2, fin, Qi, U0]
 | indexArr len esz x i =>
  simp only [Gb, Qr, Qe8, Qs, U3]
  cases Q4 tm x <;> try rfl
  all_goals
   simp only []
   cases Q4 tm i <;> try rfl
   rename_i v; cases v <;> try rfl
   rename_i n
   by_cases h1 : 0 ≤ n <;> by_cases h2 : n < len <;> simp [h1, h2, fin, Qi, U0]
 | indexStr x i =>
  simp only [Gb, Qr, Qf6, Qs, Qva]
  cases Q4 tm x <;> try rfl
  rename_i v; cases v <;> try rfl
  simp only []
  cases Q4 tm i <;> try rfl
  rename_i v; cases v <;> try rfl
  simp only [Gj];rename_i s _ n;cases idx s n <;> rfl
 | extract x i =>
  simp only [Gb, Qr, Qhd, Qs]
  cases Q4 tm x <;> try rfl
  ·rename_i v; cases v <;> try rfl
   rename_i vs;simp only [Gj];cases vs[i]? <;> rfl
  rename_i vs;simp only [Gj];cases vs[i]? <;> rfl
 | lenStr x =>
  simp only [Gb, Qr, Qlj, Qs]
  cases Q4 tm x <;> try rfl
  rename_i v; cases v <;> rfl
 | lenSl x =>
  simp only [Gb, Qr, Qpq, Qs]
  cases Q4 tm x <;> try rfl
  rename_i v; cases v <;> rfl
 | lenMap x =>
  simp only [Gb, Qr, Qke, Qs, Q10]
  cases Q4 tm x <;> try rfl
  ·rename_i v; cases v <;> rfl
  rename_i r;simp only []
  cases hp[r]? with
  | none => rfl
  | some o => cases o <;> rfl
 | append esz bytes s x => simp only [Gb, Qr]; exact Qbz ..
 | appendT esz bytes s x =>
  simp only [Gb, Qr, Qg0, Qs, Qbz, Qmn]
  cases hs : Q4 tm s <;> try rfl
  rename_i es a off len;simp only [Q10, U3, Qan, Q73]
  cases hp[a]? with
  | none => rfl
  | some o =>
   cases o <;> try rfl
   rename_i cs;simp only []
   by_cases h0 : off + len * esz ≤ cs.length
   ·have h1 : Nat.ble (off + len * esz) cs.length = true := by simpa using h0
    rw [h1, if_pos h0, if_pos rfl];rw [Cp]
    cases hq : Qfg (hp.set a (.cells (cs.take (off + len * esz)))) hp.length esz bytes (.slice es a off len) (Q4 tm x) with
    | none => rfl
    | some q =>
     obtain ⟨v, e⟩ := q;show k v (e.apply (hp.set a (.cells (cs.take (off + len * esz)))) (hp.set a (.cells (cs.take (off + len * esz)))).length) = k v ((e.pre a (.cells (cs.take (off + len * esz)))).apply hp hp.length);rw [Qll (Qm9 hq), Cp]
   have h1 : Nat.ble (off + len * esz) cs.length = false := by rw [← Nt, Mu]; exact h0
   rw [h1, if_neg h0]; rfl
 | copyB d s =>
  have hc : ∀ new, (match Q4 tm d with
    | .p .nilSlice => k (.p (.int .i64 0)) hp
    | .slice es a off len => Qk1 E hp a fun
     | .cells cs => chk E (Nat.beq es 1 && (Nat.ble (off + len) cs.length && Nat.ble 1 len))
      (Qmp len new cs off fun n cs => Qrg hp a (.cells cs) fun hp => k (.p (.int .i64 n)) hp)
     | _ => E.fail
    | _ => E.fail) = fin E hp k (Qm6 hp (Q4 tm d) new) := fun new => by
   simp only [Q10, U3, Qmp, Qan, Qhn, Q8b, Q73, Qm6]
   cases Q4 tm d <;> try rfl
   ·rename_i v; cases v <;> rfl
   rename_i es a off len;simp only []
   cases hp[a]? with
   | none => rfl
   | some o =>
    cases o <;> try rfl
    rename_i cs;simp only []
    by_cases h1 : es = 1 <;> by_cases h2 : off + len ≤ cs.length <;> by_cases h3 : 1 ≤ len <;> simp [h1, h2, h3, fin, Q7h] <;> omega
  simp only [Gb, Qr, Qoo, Qs, Z01]
  cases Qsc hp (Q4 tm s) with
  | none => rfl
  | some new => exact hc new
 | max x y =>
  simp only [Gb, Qr, Qy1, Qs, Q2a]
  cases Q4 tm x <;> try rfl
  rename_i v; cases v <;> try rfl
  simp only []
  cases Q4 tm y <;> try rfl
  rename_i v; cases v <;> try rfl
  simp [fin, Qi, U0]
 | min x y =>
  simp only [Gb, Qr, Qyp, Qs, Q2a]
  cases Q4 tm x <;> try rfl
  rename_i v; cases v <;> try rfl
  simp only []
  cases Q4 tm y <;> try rfl
  rename_i v; cases v <;> try rfl
  simp [fin, Qi, U0]
end
end
end Go.Av
