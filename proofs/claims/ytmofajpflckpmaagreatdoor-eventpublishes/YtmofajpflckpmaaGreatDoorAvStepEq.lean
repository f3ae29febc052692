/- An abstract machine for the modelled code, and what its runs say of real calls. Part of a proof of a given statement: for every input the law returns true and the arguments read as before; no condition beyond the given row. -/
import Derived.Test.YtmofajpflckpmaaGreatDoorAvStep
namespace Go.Av
noncomputable section
universe u
section
variable {α : Type u} (E : Env α)
def fin (E : Env α) (hp : List AObj) (k : AV → List AObj → α) : Option (AV × Eff) → α
 | some (v, e) => k v (e.apply hp hp.length)
 | none => E.fail
theorem Q6d (hp : List AObj) (k : AV → List AObj → α) : fin E hp k none = E.fail := rfl
theorem Q5k (hp : List AObj) (k : AV → List AObj → α) (v : AV) (e : Eff) : fin E hp k (some (v, e)) = k v (e.apply hp hp.length) := rfl
theorem Xj {β : Type} (hp : List AObj) (k : AV → List AObj → α) (o : Option β) (f : β → Option (AV × Eff)) : fin E hp k (o.bind f) = (match o with
  | some b => fin E hp k (f b)
  | none => E.fail) := by cases o <;> rfl
theorem Qck {β : Type} (hp : List AObj) (k : AV → List AObj → α) (o : Option β) (f : β → AV × Eff) : fin E hp k (o.map f) = (match o with
  | some b => fin E hp k (some (f b))
  | none => E.fail) := by cases o <;> rfl
theorem V3 (hp : List AObj) (o : AObj) : ({ new := some o } : Eff).apply hp hp.length = hp ++ [o] := by simp [Eff.apply, plc]
theorem G6 (hp : List AObj) (n : Nat) (a : Nat) (o : AObj) : ({ set := some (a, o) } : Eff).apply hp n = hp.set a o := by simp [Eff.apply]
theorem Qas (hp : List AObj) (a : Nat) (o o' : AObj) : ({ set := some (a, o), new := some o' } : Eff).apply hp hp.length = hp.set a o ++ [o'] := by simp [Eff.apply, plc]
theorem Y8 (hp : List AObj) (n : Nat) : ({} : Eff).apply hp n = hp := rfl

theorem Qgs (hp : List AObj) (esz bytes : Nat) (s : AV) (new : List AV) (n : Nat) (k : AV → List AObj → α) :
  Qgc E hp esz bytes s new n k = fin E hp k (Q5l hp hp.length esz bytes s new n) := by
 unfold Qgc Q5l
 by_cases hn : n = 0
 ·subst hn
  simp only [ifB, if_true]
  cases s with
  | p v => cases v <;> rfl
  | _ => rfl
 ·have : Nat.beq n 0 = false := by cases n <;> first | rfl | simp_all
  simp only [this, ifB, hn, if_false]
  cases s with
  | p v =>
   cases v <;> (try rfl) <;>
   (by_cases h3 : (n + 4096) * bytes ≤ 17592186044416 <;> simp [Y6, Ja, h3, fin, V3])
  | slice es a off len =>
   simp only [W3]
   cases h : hp[a]? with
   | none => rfl
   | some o =>
    cases o <;> simp only [Y6, V0, Wc, Jn, Ja, fin] <;> (try rfl)
    by_cases h1 : es = esz <;> rename_i cs <;> by_cases h2 : off + len * esz = cs.length <;> by_cases h3 : (len + n + 4096) * bytes ≤ 17592186044416 <;> simp [h1, h2, h3, Qas, List.length_set]
  | _ => rfl

theorem Qh5 (hp : List AObj) (K : List AV → α) (v : AV) : Qjf E hp K v = (match Qci hp v with
  | some new => K new
  | none => E.fail) := by
 unfold Qjf Qci
 cases v <;> try rfl
 ·rename_i p; cases p <;> try rfl
  ·simp [Ya]
  ·rename_i es rows
   simp only [Y6, Ya]
   by_cases h0 : es = 1
   ·simp [h0]
   ·have : Nat.beq es 1 = false := by rw [← Bool.not_eq_true, Nat.beq_eq]; exact h0
    simp [h0, this]
 ·rename_i es b off n
  simp only [W3, V0, Y6, Vh]
  cases hp[b]? with
  | none => rfl
  | some o =>
   cases o <;> try rfl
   rename_i cs
   by_cases h0 : es = 1
   ·simp only [h0, if_true, Nat.beq_refl]
    cases V7 n (cs.drop off) <;> rfl
   ·have : Nat.beq es 1 = false := by rw [← Bool.not_eq_true, Nat.beq_eq]; exact h0
    simp [h0, this]
theorem Q22 (tm : List AV) (hp : List AObj) (k : AV → List AObj → α) (esz bytes : Nat) (s x : Opd) : G7 E tm hp k esz bytes s x = fin E hp k (Q42 hp hp.length esz bytes (Q2 tm s) (Q2 tm x)) := by
 simp only [Q42, G7, Qq, W3, Y6, Qgs, Ya, V0, Vh]
 cases Q2 tm x <;> try rfl
 ·rename_i v; cases v <;> try rfl
  ·rename_i b
   by_cases h0 : esz = 1
   ·simp [h0]
   ·have : Nat.beq esz 1 = false := by rw [← Bool.not_eq_true, Nat.beq_eq]; exact h0
    simp [h0, this, Q6d]
  ·rename_i es rows
   by_cases h0 : es = esz
   ·simp [h0]
   ·have : Nat.beq es esz = false := by rw [← Bool.not_eq_true, Nat.beq_eq]; exact h0
    simp [h0, this, Q6d]
 ·rename_i es b off n
  simp only []
  cases hp[b]? with
  | none => rfl
  | some o =>
   cases o <;> try rfl
   rename_i cs
   by_cases h0 : es = esz
   ·simp only [h0, if_true, Xj, Nat.beq_refl]
    cases V7 (n * esz) (cs.drop off) <;> rfl
   ·have : Nat.beq es esz = false := by rw [← Bool.not_eq_true, Nat.beq_eq]; exact h0
    simp [h0, this, Q6d]
theorem Q38 (tm : List AV) (hp : List AObj) (k : AV → List AObj → α) (c : COp) (hc : c.isCall = false) :
  X9 E tm hp k c = fin E hp k (Qs E.glob tm hp hp.length c) := by
 cases c with
 | call f args => cases hc
 | callv f args => cases hc
 | move x => simp only [X9, Qs, Qdk, Qq]; rfl
 | pick c a b =>
  simp only [X9, Qs, Qdd, Qq, Wr]
  cases Q2 tm c <;> try rfl
  rename_i v; cases v <;> try rfl
  rename_i b; cases b <;> rfl
 | alloc z => simp only [X9, Qs, Qa0, Ya, Ja, Q5k, V3]
 | box x =>
  simp only [X9, Qs, Qf9, Qq, Q3r, Ja, Qck, Q5k, V3]
  cases (Q2 tm x).cells? <;> rfl
 | build z ps =>
  simp only [X9, Qs, Q9k, Ya, Q63, Xj]
  cases Jc tm (z.map AV.p) ps <;> rfl
 | buildSlice z len esz ps =>
  simp only [X9, Qs, Q17, Ya, Q63, Ja, Qck, Q5k, V3]
  cases Jc tm ((List.replicate len z).flatten.map AV.p) ps <;> rfl
 | load n agg x =>
  simp only [X9, Qs, Qbt, Qq, Q0b, Vh, W5, Xj]
  cases Xr E.glob hp (Q2 tm x) with
  | none => rfl
  | some cs =>
   simp only []
   cases V7 n cs with
   | none => rfl
   | some cs => simp only []; cases sOf agg cs <;> rfl
 | store n x y =>
  simp only [X9, Qs, Qa6, Qq, W3, Q3r, Y6, Gh, Jn]
  cases Q2 tm x <;> try rfl
  rename_i a off
  simp only []
  cases hp[a]? with
  | none => rfl
  | some o =>
   cases o <;> try rfl
   rename_i cs
   simp only []
   cases (Q2 tm y).cells? with
   | none => rfl
   | some v =>
    simp only []
    by_cases h1 : v.length = n <;> by_cases h2 : off + n ≤ cs.length <;> simp [h1, h2, fin, G6]
 | nilCheck x =>
  simp only [X9, Qs, Q3c, Qq]
  cases Q2 tm x <;> try rfl
  ·rename_i v; cases v <;> try rfl
   rename_i fn a b; cases fn <;> rfl
  ·rename_i fn a b; cases fn <;> rfl
 | ari op x y =>
  simp only [X9, Qs, Qfk, Qq]
  cases Q2 tm x <;> try rfl
  rename_i v
  cases v <;> try rfl
  ·simp only []
   cases Q2 tm y <;> try rfl
   rename_i v
   cases v <;> try rfl
   simp only [Qfy, Y6]
   rename_i i x j y
   cases Q5d op i j
   ·rfl
   ·simp only [if_true, Xj]
    cases Qgh op i x y <;> rfl
  ·simp only []
   cases Q2 tm y <;> try rfl
   rename_i v
   cases v <;> try rfl
   cases op <;> try rfl
   simp only [Y6]
   rename_i s t
   by_cases h : s.length + t.length ≤ 4611686018427387904 <;> simp [h, fin, Qh, Y8]
 | cmp op x y =>
  simp only [X9, Qs, Qfi, Qq, Xj, E.cmp.2, E.scmp.2]
  cases Q2 tm x <;> try rfl
  rename_i v
  cases v <;> try rfl
  ·simp only []
   cases Q2 tm y <;> try rfl
   rename_i v
   cases v <;> try rfl
   rename_i i x j y
   simp only [Y6, Qir]
   cases i == j <;> rfl
  ·simp only []
   cases Q2 tm y <;> try rfl
   rename_i v
   cases v <;> rfl
 | eqB neg x y =>
  simp only [X9, Qs, Qfg, Qq]
  cases Q2 tm x <;> try rfl
  rename_i v
  cases v <;> try rfl
  simp only []
  cases Q2 tm y <;> try rfl
  rename_i v
  cases v <;> try rfl
  cases neg <;> rfl
 | eqP neg x y =>
  simp only [X9, Qs, Qff, Qq]
  cases Q2 tm x <;> try rfl
  ·rename_i v
   cases v <;> try rfl
   simp only []
   cases Q2 tm y <;> try rfl
   rename_i v
   cases v <;> rfl
  ·simp only []
   cases Q2 tm y <;> try rfl
   rename_i v
   cases v <;> rfl
 | eqAgg neg kinds x y =>
  simp only [X9, Qs, Q9m, Qq, Qd9]
  cases (Q2 tm x).aggs? <;> try rfl
  simp only []
  cases (Q2 tm y).aggs? <;> try rfl
  simp only [Q4v, Xj, Wr]
  rename_i cs ds
  cases Z7 kinds cs ds <;> rfl
 | not x =>
  simp only [X9, Qs, Qfc, Qq]; cases Q2 tm x <;> try rfl
  rename_i v; cases v <;> rfl
 | neg x =>
  simp only [X9, Qs, Qf2, Qq]; cases Q2 tm x <;> try rfl
  rename_i v; cases v <;> rfl
 | conv i x =>
  simp only [X9, Qs, Qca, Qq]; cases Q2 tm x <;> try rfl
  rename_i v; cases v <;> rfl
 | bytesOf x =>
  simp only [X9, Qs, Q52, Qq]; cases Q2 tm x <;> try rfl
  rename_i v; cases v <;> try rfl
  simp only [Ya, Ja, fin, V3]
 | strOf x =>
  simp only [X9, Qs, Q98, Qq, W3]
  cases Q2 tm x <;> try rfl
  ·rename_i v; cases v <;> rfl
  ·rename_i es a off len
   simp only []
   cases hp[a]? with
   | none => rfl
   | some o =>
    cases o <;> try rfl
    simp only [V0, Vh, Q3k, Xj]
    rename_i cs
    cases V7 len (cs.drop off) with
    | none => rfl
    | some cs => simp only []; cases Q9s cs <;> rfl
 | makeFunc fn a b => simp only [X9, Qs, Q3a, Xp]; rfl
 | makeMap => simp only [X9, Qs, Q4t, Ja, fin, V3]
 | bad => rfl
 | sliceZ x =>
  simp only [X9, Qs, Q7q, Qq]
  cases Q2 tm x <;> try rfl
  rename_i v
  cases v <;> rfl
 | eqN neg x =>
  simp only [X9, Qs, Qfb, Qq]
  cases Q2 tm x <;> try rfl
  ·rename_i v
   cases v <;> try rfl
   ·cases neg <;> rfl
   ·rename_i es rows
    simp only [Y6]
    cases rows.isEmpty <;> rfl
  ·rename_i es b off len
   simp only [Y6]
   by_cases h : 0 < len <;> simp [h, fin, Qh, Y8, Nat.blt_eq]
 | extIx x y =>
  simp only [X9, Qs, Qai, Qq]
  cases Q2 tm x <;> try rfl
  rename_i v
  cases v <;> try (cases Q2 tm y <;> rfl)
  cases Q2 tm y <;> try rfl
  rename_i u
  cases u <;> try rfl
  rename_i s i c
  simp only [Y6]
  cases i == IntKind.u8 <;> rfl
 | rangeS x =>
  simp only [X9, Qs, Q6p, Qq]
  cases Q2 tm x <;> try rfl
  rename_i v
  cases v <;> try rfl
  simp only [Ja, fin, V3]
 | nextS x =>
  simp only [X9, Qs, Q9r, Qq, W3]
  cases Q2 tm x <;> try rfl
  rename_i b o
  simp only []
  cases hp[b]? with
  | none => rfl
  | some ob =>
   cases ob <;> try rfl
   rename_i s pos
   simp only [Y6, Jn, Wr]
   by_cases h0 : o = 0
   ·subst h0
    by_cases hl : pos < s.length
    ·simp [hl, fin, G6, Nat.blt_eq]
    ·simp [hl, fin, Qh, Y8, Nat.blt_eq]
   ·simp [h0, fin]
 | runeStr x =>
  simp only [X9, Qs, Q59, Qq]
  cases Q2 tm x <;> try rfl
  rename_i v
  cases v <;> rfl
 | extCt x y =>
  simp only [X9, Qs, Q9d, Qq]
  cases Q2 tm x <;> try rfl
  rename_i v
  cases v <;> try (cases Q2 tm y <;> rfl)
  cases Q2 tm y <;> try rfl
  rename_i u
  cases u <;> try rfl
  rename_i s i c
  simp only [Y6]
  cases i == IntKind.u8 <;> rfl
 | mkIface t x => simp only [X9, Qs, Q58, Qq]; rfl
 | asserT t z agg ok x =>
  simp only [X9, Qs, Q6l, Qq, Wr, Y6, Ya, W5]
  have key : ∀ (u : Nat) (v : AV), (if Nat.beq u t = true then if ok = true then k (.tuple [v, .p (.bool true)]) hp else k v hp else if ok = true then (match sOf agg (z.map .p) with
     | some z => k (.tuple [z, .p (.bool false)]) hp
     | none => E.fail) else E.fail) = fin E hp k (if u = t then Qh (if ok then .tuple [v, .p (.bool true)] else v) else if ok = true then (sOf agg (z.map .p)).bind fun z => Qh (.tuple [z, .p (.bool false)]) else none) := by
   intro u v
   by_cases hu : u = t
   ·subst hu; cases ok <;> simp [fin, Qh, Y8]
   ·have : Nat.beq u t = false := by rw [← Bool.not_eq_true, Nat.beq_eq]; exact hu
    simp only [this, hu, if_false, Bool.false_eq_true]
    cases ok
    ·rfl
    ·simp only [if_true, Xj]; cases sOf agg (z.map .p) <;> rfl
  cases Q2 tm x <;> try rfl
  ·rename_i v
   cases v <;> try rfl
   exact key _ _
  ·exact key _ _
 | eqI neg x =>
  simp only [X9, Qs, Qfe, Qq]
  cases Q2 tm x <;> try rfl
  rename_i v
  cases v <;> first | rfl | (cases neg <;> rfl)
 | eqF neg x =>
  simp only [X9, Qs, Qfm, Qq]
  cases Q2 tm x <;> try rfl
  rename_i v
  cases v <;> first | rfl | (cases neg <;> rfl)
 | del kk m ke =>
  simp only [X9, Qs, Qf0, Qq, W3]
  cases Q2 tm m <;> try rfl
  rename_i r
  cases Q2 tm ke
  case p kv =>
   simp only []
   cases h : hp[r]? with
   | none => rfl
   | some o =>
    cases o <;> try rfl
    rename_i es
    simp only [Gc, Y6]
    cases Wz kk kv with
    | false => rfl
    | true =>
     simp only [if_true, Bool.true_eq_false, if_false]
     cases Jl kv 0 es with
     | none => rfl
     | some r => cases r <;> simp [Jn, fin, G6, Qh, Y8]
  all_goals
   simp only []
   cases h : hp[r]? with
   | none => rfl
   | some o => cases o <;> rfl
 | insert kk m ke v =>
  simp only [X9, Qs, Q75, Qq, W3]
  cases Q2 tm m <;> try rfl
  rename_i r
  cases Q2 tm ke
  case p kv =>
   simp only []
   cases h : hp[r]? with
   | none => rfl
   | some o =>
    cases o <;> try rfl
    rename_i es
    simp only [Gc, Y6]
    cases Wz kk kv with
    | false => rfl
    | true =>
     simp only [if_true, Bool.true_eq_false, if_false]
     cases Jl kv 0 es with
     | none => rfl
     | some r => cases r <;> simp [Jn, Wc, fin, G6]
  all_goals
   simp only []
   cases h : hp[r]? with
   | none => rfl
   | some o => cases o <;> rfl
 | lookup kk z agg ok m ke =>
  simp only [X9, Qs, Q6y, Qq, W3]
  cases Q2 tm m
  case map r =>
   cases Q2 tm ke
   case p kv =>
    simp only []
    cases h : hp[r]? with
    | none => rfl
    | some o =>
     cases o <;> try rfl
     rename_i es
     simp only [Gc, Y6]
     cases Wz kk kv with
     | false => rfl
     | true =>
      simp only [if_true, Bool.true_eq_false, if_false]
      cases Jl kv 0 es with
      | none => rfl
      | some r =>
       cases r with
       | none =>
        simp only [Ya, W5, Xj]
        cases sOf agg (z.map AV.p) <;> cases ok <;> rfl
       | some r => cases ok <;> rfl
   all_goals
    simp only []
    cases h : hp[r]? with
    | none => rfl
    | some o => cases o <;> rfl
  case p mv =>
   cases mv <;> try (cases Q2 tm ke <;> rfl)
   rename_i ps
   cases Q2 tm ke <;> try rfl
   rename_i kv
   simp only [Y6, Q64]
   cases Wz kk kv with
   | false => rfl
   | true =>
    simp only [if_true, Bool.true_eq_false, if_false]
    cases Q6v kv ps with
    | none => rfl
    | some r =>
     cases r with
     | none =>
      simp only [Ya, W5, Xj]
      cases sOf agg (z.map AV.p) <;> cases ok <;> rfl
     | some r => cases ok <;> rfl
  all_goals (cases Q2 tm ke <;> rfl)
 | makeSlice z bytes l c =>
  simp only [X9, Qs, Q2c, Qq]
  cases Q2 tm l <;> try rfl
  rename_i v; cases v <;> try rfl
  simp only []
  cases Q2 tm c <;> try rfl
  rename_i v; cases v <;> try rfl
  simp only [Y6, Ya, Ja]
  rename_i l _ c
  by_cases h1 : 0 ≤ l <;> by_cases h2 : l ≤ c <;> by_cases h3 : c * bytes ≤ 1099511627776 <;> simp [h1, h2, h3, fin, V3]
 | sliceStr x lo hi =>
  simp only [X9, Qs, Q3y, Qq, Q8p, Q61, Y6]
  cases Q2 tm x <;> try rfl
  rename_i v; cases v <;> try rfl
  rename_i s
  simp only []
  cases Q2b 0 (lo.map (Q2 tm)) <;> try rfl
  rename_i l
  simp only []
  cases Q2b s.length (hi.map (Q2 tm)) <;> try rfl
  rename_i h
  by_cases h1 : l ≤ h <;> by_cases h2 : h ≤ s.length <;> simp [h1, h2, fin, Qh, Y8]
 | slice esz x lo hi =>
  simp only [X9, Qs, Q9e, Qq, Q8p, Q61, Y6]
  cases Q2 tm x <;> try rfl
  ·rename_i v; cases v <;> try rfl
   rename_i es s
   simp only []
   cases Q2b 0 (lo.map (Q2 tm)) <;> try rfl
   rename_i l
   simp only []
   cases Q2b s.length (hi.map (Q2 tm)) <;> try rfl
   rename_i h
   by_cases h0 : es = esz <;> by_cases h1 : l ≤ h <;> by_cases h2 : h ≤ s.length <;> simp [h0, h1, h2, fin, Qh, Y8]
  ·rename_i es a off s
   simp only []
   cases Q2b 0 (lo.map (Q2 tm)) <;> try rfl
   rename_i l
   simp only []
   cases Q2b s (hi.map (Q2 tm)) <;> try rfl
   rename_i h
   by_cases h0 : es = esz <;> by_cases h1 : l ≤ h <;> by_cases h2 : h ≤ s <;> simp [h0, h1, h2, fin, Qh, Y8]
 | sliceArr n esz x lo hi =>
  simp only [X9, Qs, Q3x, Qq, Q8p, Q61, Y6, W3]
  cases Q2 tm x <;> try rfl
  rename_i a off
  simp only []
  cases hp[a]? with
  | none => rfl
  | some o =>
   cases o <;> try rfl
   rename_i cs
   simp only []
   cases Q2b 0 (lo.map (Q2 tm)) <;> try rfl
   rename_i l
   simp only []
   cases Q2b n (hi.map (Q2 tm)) <;> try rfl
   rename_i h
   by_cases h0 : off + n * esz ≤ cs.length <;> by_cases h1 : l ≤ h <;> by_cases h2 : h ≤ n <;> simp [h0, h1, h2, fin, Qh, Y8]
 | fieldAddr x off => simp only [X9, Qs, Q21, Qq, V0]; cases Q2 tm x <;> rfl
 | field x off n agg =>
  simp only [X9, Qs, Q9b, Qq, Qd9]
  cases (Q2 tm x).aggs? <;> try rfl
  simp only [V0, Vh, W5, Xj]
  rename_i cs
  cases V7 n (cs.drop off) with
  | none => rfl
  | some cs => simp only []; cases sOf agg cs <;> rfl
 | indexAddr esz x i =>
  simp only [X9, Qs, Q24, Qq, Y6, Qdm]
  cases Q2 tm x <;> try rfl
  ·rename_i v; cases v <;> try rfl
   simp only []
   cases Q2 tm i <;> try rfl
   rename_i v; cases v <;> try rfl
   rename_i es rows _ n
   by_cases h0 : es = esz <;> cases hi : idx rows n <;> simp [h0, hi, fin, Qh, Y8]
  ·simp only []
   cases Q2 tm i <;> try rfl
   rename_i v; cases v <;> try rfl
   rename_i es a off len _ n
   by_cases h1 : 0 ≤ n <;> by_cases h2 : n < len <;> simp [h1, h2, fin, Qh, Y8]
 | indexArr len esz x i =>
  simp only [X9, Qs, Q2q, Qq, Y6]
  cases Q2 tm x <;> try rfl
  all_goals
   simp only []
   cases Q2 tm i <;> try rfl
   rename_i v; cases v <;> try rfl
   rename_i n
   by_cases h1 : 0 ≤ n <;> by_cases h2 : n < len <;> simp [h1, h2, fin, Qh, Y8]
 | indexStr x i =>
  simp only [X9, Qs, Q2y, Qq, Qdm]
  cases Q2 tm x <;> try rfl
  rename_i v; cases v <;> try rfl
  simp only []
  cases Q2 tm i <;> try rfl
  rename_i v; cases v <;> try rfl
  simp only [Xj]
  rename_i s _ n
  cases idx s n <;> rfl
 | extract x i =>
  simp only [X9, Qs, Q54, Qq]
  cases Q2 tm x <;> try rfl
  ·rename_i v; cases v <;> try rfl
   rename_i vs
   simp only [Xj]
   cases vs[i]? <;> rfl
  ·rename_i vs
   simp only [Xj]
   cases vs[i]? <;> rfl
 | lenStr x =>
  simp only [X9, Qs, Q7m, Qq]
  cases Q2 tm x <;> try rfl
  rename_i v; cases v <;> rfl
 | lenSl x =>
  simp only [X9, Qs, Q9l, Qq]
  cases Q2 tm x <;> try rfl
  rename_i v; cases v <;> rfl
 | lenMap x =>
  simp only [X9, Qs, Q71, Qq, W3]
  cases Q2 tm x <;> try rfl
  ·rename_i v; cases v <;> rfl
  ·rename_i r
   simp only []
   cases hp[r]? with
   | none => rfl
   | some o => cases o <;> rfl
 | append esz bytes s x => simp only [X9, Qs]; exact Q22 ..
 | appendT esz bytes s x =>
  simp only [X9, Qs, Q51, Qq, Q22, Q8h]
  cases hs : Q2 tm s <;> try rfl
  rename_i es a off len
  simp only [W3, Y6, Q1c, Jn]
  cases hp[a]? with
  | none => rfl
  | some o =>
   cases o <;> try rfl
   rename_i cs
   simp only []
   by_cases h0 : off + len * esz ≤ cs.length
   ·have h1 : Nat.ble (off + len * esz) cs.length = true := by simpa using h0
    rw [h1, if_pos h0, if_pos rfl]
    rw [List.length_set]
    cases hq : Q42 (hp.set a (.cells (cs.take (off + len * esz)))) hp.length esz bytes (.slice es a off len) (Q2 tm x) with
    | none => rfl
    | some q =>
     obtain ⟨v, e⟩ := q
     show k v (e.apply (hp.set a (.cells (cs.take (off + len * esz)))) (hp.set a (.cells (cs.take (off + len * esz)))).length) = k v ((e.pre a (.cells (cs.take (off + len * esz)))).apply hp hp.length)
     rw [Q6m (Q8f hq), List.length_set]
   ·have h1 : Nat.ble (off + len * esz) cs.length = false := by rw [← Bool.not_eq_true, Nat.ble_eq]; exact h0
    rw [h1, if_neg h0]; rfl
 | copyB d s =>
  have hc : ∀ new, (match Q2 tm d with
    | .p .nilSlice => k (.p (.int .i64 0)) hp
    | .slice es a off len => Q81 E hp a fun
     | .cells cs => chk E (Nat.beq es 1 && (Nat.ble (off + len) cs.length && Nat.ble 1 len))
      (Q8u len new cs off fun n cs => Qbq hp a (.cells cs) fun hp => k (.p (.int .i64 n)) hp)
     | _ => E.fail
    | _ => E.fail) = fin E hp k (Q8v hp (Q2 tm d) new) := fun new => by
   simp only [W3, Y6, Q8u, Q1c, Q5h, Gh, Jn, Q8v]
   cases Q2 tm d <;> try rfl
   ·rename_i v; cases v <;> rfl
   ·rename_i es a off len
    simp only []
    cases hp[a]? with
    | none => rfl
    | some o =>
     cases o <;> try rfl
     rename_i cs
     simp only []
     by_cases h1 : es = 1 <;> by_cases h2 : off + len ≤ cs.length <;> by_cases h3 : 1 ≤ len <;> simp [h1, h2, h3, fin, G6] <;> omega
  simp only [X9, Qs, Q9t, Qq, Qh5]
  cases Qci hp (Q2 tm s) with
  | none => rfl
  | some new => exact hc new
 | max x y =>
  simp only [X9, Qs, Qfj, Qq, Wr]
  cases Q2 tm x <;> try rfl
  rename_i v; cases v <;> try rfl
  simp only []
  cases Q2 tm y <;> try rfl
  rename_i v; cases v <;> try rfl
  simp [fin, Qh, Y8]
 | min x y =>
  simp only [X9, Qs, Qfa, Qq, Wr]
  cases Q2 tm x <;> try rfl
  rename_i v; cases v <;> try rfl
  simp only []
  cases Q2 tm y <;> try rfl
  rename_i v; cases v <;> try rfl
  simp [fin, Qh, Y8]
end
end
end Go.Av
