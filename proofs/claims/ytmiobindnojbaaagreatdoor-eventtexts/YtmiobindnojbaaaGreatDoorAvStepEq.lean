/- An abstract machine for the modelled code, and what its runs say of real calls. Part of a proof of a given statement: for every input the law returns true and the arguments read as before; no condition beyond the given row. -/
import Derived.Test.YtmiobindnojbaaaGreatDoorAvStep
namespace Go.Av
noncomputable section
universe u
section
variable {α : Type u} (E : Env α)
def fin (E : Env α) (hp : List AObj) (k : AV → List AObj → α) : Option (AV × Eff) → α
 | some (v, e) => k v (e.apply hp hp.length)
 | none => E.fail
theorem Q6l (hp : List AObj) (k : AV → List AObj → α) : fin E hp k none = E.fail := rfl
theorem Q6z (hp : List AObj) (k : AV → List AObj → α) (v : AV) (e : Eff) : fin E hp k (some (v, e)) = k v (e.apply hp hp.length) := rfl
theorem W8 {β : Type} (hp : List AObj) (k : AV → List AObj → α) (o : Option β) (f : β → Option (AV × Eff)) : fin E hp k (o.bind f) = (match o with
  | some b => fin E hp k (f b)
  | none => E.fail) := by cases o <;> rfl
theorem Qe6 {β : Type} (hp : List AObj) (k : AV → List AObj → α) (o : Option β) (f : β → AV × Eff) : fin E hp k (o.map f) = (match o with
  | some b => fin E hp k (some (f b))
  | none => E.fail) := by cases o <;> rfl
theorem Vz (hp : List AObj) (o : AObj) : ({ new := some o } : Eff).apply hp hp.length = hp ++ [o] := by simp [Eff.apply, plc]
theorem Gk (hp : List AObj) (n : Nat) (a : Nat) (o : AObj) : ({ set := some (a, o) } : Eff).apply hp n = hp.set a o := by simp [Eff.apply]
theorem Qbm (hp : List AObj) (a : Nat) (o o' : AObj) : ({ set := some (a, o), new := some o' } : Eff).apply hp hp.length = hp.set a o ++ [o'] := by simp [Eff.apply, plc]
theorem Yt (hp : List AObj) (n : Nat) : ({} : Eff).apply hp n = hp := rfl

theorem Qj2 (hp : List AObj) (esz bytes : Nat) (s : AV) (new : List AV) (n : Nat) (k : AV → List AObj → α) :
  Qhn E hp esz bytes s new n k = fin E hp k (Q67 hp hp.length esz bytes s new n) := by
 unfold Qhn Q67
 by_cases hn : n = 0
 ·subst hn
  simp only [ifB, if_true]
  cases s with
  | p v => cases v <;> rfl
  | _ => rfl
 ·have : Nat.beq n 0 = false := by cases n <;> first | rfl | simp_all
  simp only [this, ifB, hn, if_false]
  cases s with
  | p v =>
   cases v <;> (try rfl) <;>
   (by_cases h3 : (n + 4096) * bytes ≤ 17592186044416 <;> simp [Yv, G4, h3, fin, Vz])
  | slice es a off len =>
   simp only [Ww]
   cases h : hp[a]? with
   | none => rfl
   | some o =>
    cases o <;> simp only [Yv, Wr, Vf, Gv, G4, fin] <;> (try rfl)
    by_cases h1 : es = esz <;> rename_i cs <;> by_cases h2 : off + len * esz = cs.length <;> by_cases h3 : (len + n + 4096) * bytes ≤ 17592186044416 <;> simp [h1, h2, h3, Qbm, List.length_set]
  | _ => rfl

theorem Qhs (hp : List AObj) (K : List AV → α) (v : AV) : Qll E hp K v = (match Qej hp v with
  | some new => K new
  | none => E.fail) := by
 unfold Qll Qej
 cases v <;> try rfl
 ·rename_i p; cases p <;> try rfl
  ·simp [Yr]
  ·rename_i es rows
   simp only [Yv, Yr]
   by_cases h0 : es = 1
   ·simp [h0]
   ·have : Nat.beq es 1 = false := by rw [← Bool.not_eq_true, Nat.beq_eq]; exact h0
    simp [h0, this]
 ·rename_i es b off n
  simp only [Ww, Wr, Yv, Ud]
  cases hp[b]? with
  | none => rfl
  | some o =>
   cases o <;> try rfl
   rename_i cs
   by_cases h0 : es = 1
   ·simp only [h0, if_true, Nat.beq_refl]
    cases U3 n (cs.drop off) <;> rfl
   ·have : Nat.beq es 1 = false := by rw [← Bool.not_eq_true, Nat.beq_eq]; exact h0
    simp [h0, this]
theorem Q34 (tm : List AV) (hp : List AObj) (k : AV → List AObj → α) (esz bytes : Nat) (s x : Opd) : Gq E tm hp k esz bytes s x = fin E hp k (Q4u hp hp.length esz bytes (Q1 tm s) (Q1 tm x)) := by
 simp only [Q4u, Gq, Qk, Ww, Yv, Qj2, Yr, Wr, Ud]
 cases Q1 tm x <;> try rfl
 ·rename_i v; cases v <;> try rfl
  ·rename_i b
   by_cases h0 : esz = 1
   ·simp [h0]
   ·have : Nat.beq esz 1 = false := by rw [← Bool.not_eq_true, Nat.beq_eq]; exact h0
    simp [h0, this, Q6l]
  ·rename_i es rows
   by_cases h0 : es = esz
   ·simp [h0]
   ·have : Nat.beq es esz = false := by rw [← Bool.not_eq_true, Nat.beq_eq]; exact h0
    simp [h0, this, Q6l]
 ·rename_i es b off n
  simp only []
  cases hp[b]? with
  | none => rfl
  | some o =>
   cases o <;> try rfl
   rename_i cs
   by_cases h0 : es = esz
   ·simp only [h0, if_true, W8, Nat.beq_refl]
    cases U3 (n * esz) (cs.drop off) <;> rfl
   ·have : Nat.beq es esz = false := by rw [← Bool.not_eq_true, Nat.beq_eq]; exact h0
    simp [h0, this, Q6l]
theorem Q3v (tm : List AV) (hp : List AObj) (k : AV → List AObj → α) (c : COp) (hc : c.isCall = false) :
  Xz E tm hp k c = fin E hp k (Qm E.glob tm hp hp.length c) := by
 cases c with
 | call f args => cases hc
 | callv f args => cases hc
 | move x => simp only [Xz, Qm, Qe7, Qk]; rfl
 | pick c a b =>
  simp only [Xz, Qm, Qey, Qk, Vj]
  cases Q1 tm c <;> try rfl
  rename_i v; cases v <;> try rfl
  rename_i b; cases b <;> rfl
 | alloc z => simp only [Xz, Qm, Qam, Yr, G4, Q6z, Vz]
 | box x =>
  simp only [Xz, Qm, Qhg, Qk, Q4i, G4, Qe6, Q6z, Vz]
  cases (Q1 tm x).cells? <;> rfl
 | build z ps =>
  simp only [Xz, Qm, Qbe, Yr, Q79, W8]
  cases Jr tm (z.map AV.p) ps <;> rfl
 | buildSlice z len esz ps =>
  simp only [Xz, Qm, Q1f, Yr, Q79, G4, Qe6, Q6z, Vz]
  cases Jr tm ((List.replicate len z).flatten.map AV.p) ps <;> rfl
 | load n agg x =>
  simp only [Xz, Qm, Qdz, Qk, Q0w, Ud, Wu, W8]
  cases Wi E.glob hp (Q1 tm x) with
  | none => rfl
  | some cs =>
   simp only []
   cases U3 n cs with
   | none => rfl
   | some cs => simp only []; cases sOf agg cs <;> rfl
 | store n x y =>
  simp only [Xz, Qm, Qb6, Qk, Ww, Q4i, Yv, Q08, Gv]
  cases Q1 tm x <;> try rfl
  rename_i a off
  simp only []
  cases hp[a]? with
  | none => rfl
  | some o =>
   cases o <;> try rfl
   rename_i cs
   simp only []
   cases (Q1 tm y).cells? with
   | none => rfl
   | some v =>
    simp only []
    by_cases h1 : v.length = n <;> by_cases h2 : off + n ≤ cs.length <;> simp [h1, h2, fin, Gk]
 | nilCheck x =>
  simp only [Xz, Qm, Q43, Qk]
  cases Q1 tm x <;> try rfl
  ·rename_i v; cases v <;> try rfl
   rename_i fn a b; cases fn <;> rfl
  ·rename_i fn a b; cases fn <;> rfl
 | ari op x y =>
  simp only [Xz, Qm, Qgx, Qk]
  cases Q1 tm x <;> try rfl
  rename_i v
  cases v <;> try rfl
  ·simp only []
   cases Q1 tm y <;> try rfl
   rename_i v
   cases v <;> try rfl
   simp only [Qhw, Yv]
   rename_i i x j y
   cases Q5c op i j
   ·rfl
   ·simp only [if_true, W8]
    cases Qi8 op i x y <;> rfl
  ·simp only []
   cases Q1 tm y <;> try rfl
   rename_i v
   cases v <;> try rfl
   cases op <;> try rfl
   simp only [Yv]
   rename_i s t
   by_cases h : s.length + t.length ≤ 4611686018427387904 <;> simp [h, fin, Qe, Yt]
 | cmp op x y =>
  simp only [Xz, Qm, Qgw, Qk, W8, E.cmp.2, E.scmp.2]
  cases Q1 tm x <;> try rfl
  rename_i v
  cases v <;> try rfl
  ·simp only []
   cases Q1 tm y <;> try rfl
   rename_i v
   cases v <;> try rfl
   rename_i i x j y
   simp only [Yv, Qk5]
   cases i == j <;> rfl
  ·simp only []
   cases Q1 tm y <;> try rfl
   rename_i v
   cases v <;> rfl
 | eqB neg x y =>
  simp only [Xz, Qm, Qhh, Qk]
  cases Q1 tm x <;> try rfl
  rename_i v
  cases v <;> try rfl
  simp only []
  cases Q1 tm y <;> try rfl
  rename_i v
  cases v <;> try rfl
  cases neg <;> rfl
 | eqP neg x y =>
  simp only [Xz, Qm, Qhe, Qk]
  cases Q1 tm x <;> try rfl
  ·rename_i v
   cases v <;> try rfl
   simp only []
   cases Q1 tm y <;> try rfl
   rename_i v
   cases v <;> rfl
  ·simp only []
   cases Q1 tm y <;> try rfl
   rename_i v
   cases v <;> rfl
 | eqAgg neg kinds x y =>
  simp only [Xz, Qm, Qal, Qk, Qdi]
  cases (Q1 tm x).aggs? <;> try rfl
  simp only []
  cases (Q1 tm y).aggs? <;> try rfl
  simp only [Q5r, W8, Vj]
  rename_i cs ds
  cases Zk kinds cs ds <;> rfl
 | not x =>
  simp only [Xz, Qm, Qh4, Qk]; cases Q1 tm x <;> try rfl
  rename_i v; cases v <;> rfl
 | neg x =>
  simp only [Xz, Qm, Qgv, Qk]; cases Q1 tm x <;> try rfl
  rename_i v; cases v <;> rfl
 | conv i x =>
  simp only [Xz, Qm, Qei, Qk]; cases Q1 tm x <;> try rfl
  rename_i v; cases v <;> rfl
 | bytesOf x =>
  simp only [Xz, Qm, Q5m, Qk]; cases Q1 tm x <;> try rfl
  rename_i v; cases v <;> try rfl
  simp only [Yr, G4, fin, Vz]
 | strOf x =>
  simp only [Xz, Qm, Qbk, Qk, Ww]
  cases Q1 tm x <;> try rfl
  ·rename_i v; cases v <;> rfl
  ·rename_i es a off len
   simp only []
   cases hp[a]? with
   | none => rfl
   | some o =>
    cases o <;> try rfl
    simp only [Wr, Ud, Q3s, W8]
    rename_i cs
    cases U3 len (cs.drop off) with
    | none => rfl
    | some cs => simp only []; cases Qav cs <;> rfl
 | makeFunc fn a b => simp only [Xz, Qm, Q3u, Wg]; rfl
 | makeMap => simp only [Xz, Qm, Q64, G4, fin, Vz]
 | bad => rfl
 | sliceZ x =>
  simp only [Xz, Qm, Q7p, Qk]
  cases Q1 tm x <;> try rfl
  rename_i v
  cases v <;> rfl
 | eqN neg x =>
  simp only [Xz, Qm, Qgq, Qk]
  cases Q1 tm x <;> try rfl
  ·rename_i v
   cases v <;> try rfl
   ·cases neg <;> rfl
   ·rename_i es rows
    simp only [Yv]
    cases rows.isEmpty <;> rfl
  ·rename_i es b off len
   simp only [Yv]
   by_cases h : 0 < len <;> simp [h, fin, Qe, Yt, Nat.blt_eq]
 | extIx x y =>
  simp only [Xz, Qm, Qag, Qk]
  cases Q1 tm x <;> try rfl
  rename_i v
  cases v <;> try (cases Q1 tm y <;> rfl)
  cases Q1 tm y <;> try rfl
  rename_i u
  cases u <;> try rfl
  rename_i s i c
  simp only [Yv]
  cases i == IntKind.u8 <;> rfl
 | rangeS x =>
  simp only [Xz, Qm, Q8s, Qk]
  cases Q1 tm x <;> try rfl
  rename_i v
  cases v <;> try rfl
  simp only [G4, fin, Vz]
 | nextS x =>
  simp only [Xz, Qm, Qai, Qk, Ww]
  cases Q1 tm x <;> try rfl
  rename_i b o
  simp only []
  cases hp[b]? with
  | none => rfl
  | some ob =>
   cases ob <;> try rfl
   rename_i s pos
   simp only [Yv, Gv, Vj]
   by_cases h0 : o = 0
   ·subst h0
    by_cases hl : pos < s.length
    ·simp [hl, fin, Gk, Nat.blt_eq]
    ·simp [hl, fin, Qe, Yt, Nat.blt_eq]
   ·simp [h0, fin]
 | runeStr x =>
  simp only [Xz, Qm, Q5z, Qk]
  cases Q1 tm x <;> try rfl
  rename_i v
  cases v <;> rfl
 | extCt x y =>
  simp only [Xz, Qm, Qae, Qk]
  cases Q1 tm x <;> try rfl
  rename_i v
  cases v <;> try (cases Q1 tm y <;> rfl)
  cases Q1 tm y <;> try rfl
  rename_i u
  cases u <;> try rfl
  rename_i s i c
  simp only [Yv]
  cases i == IntKind.u8 <;> rfl
 | mkIface t x => simp only [Xz, Qm, Q5y, Qk]; rfl
 | asserT t z agg ok x =>
  simp only [Xz, Qm, Q91, Qk, Vj, Yv, Yr, Wu]
  have key : ∀ (u : Nat) (v : AV), (if Nat.beq u t = true then if ok = true then k (.tuple [v, .p (.bool true)]) hp else k v hp else if ok = true then (match sOf agg (z.map .p) with
     | some z => k (.tuple [z, .p (.bool false)]) hp
     | none => E.fail) else E.fail) = fin E hp k (if u = t then Qe (if ok then .tuple [v, .p (.bool true)] else v) else if ok = true then (sOf agg (z.map .p)).bind fun z => Qe (.tuple [z, .p (.bool false)]) else none) := by
   intro u v
   by_cases hu : u = t
   ·subst hu; cases ok <;> simp [fin, Qe, Yt]
   ·have : Nat.beq u t = false := by rw [← Bool.not_eq_true, Nat.beq_eq]; exact hu
    simp only [this, hu, if_false, Bool.false_eq_true]
    cases ok
    ·rfl
    ·simp only [if_true, W8]; cases sOf agg (z.map .p) <;> rfl
  cases Q1 tm x <;> try rfl
  ·rename_i v
   cases v <;> try rfl
   exact key _ _
  ·exact key _ _
 | eqI neg x =>
  simp only [Xz, Qm, Qh7, Qk]
  cases Q1 tm x <;> try rfl
  rename_i v
  cases v <;> first | rfl | (cases neg <;> rfl)
 | eqF neg x =>
  simp only [Xz, Qm, Qgz, Qk]
  cases Q1 tm x <;> try rfl
  rename_i v
  cases v <;> first | rfl | (cases neg <;> rfl)
 | del kk m ke =>
  simp only [Xz, Qm, Qhf, Qk, Ww]
  cases Q1 tm m <;> try rfl
  rename_i r
  cases Q1 tm ke
  case p kv =>
   simp only []
   cases h : hp[r]? with
   | none => rfl
   | some o =>
    cases o <;> try rfl
    rename_i es
    simp only [Q06, Yv]
    cases Vo kk kv with
    | false => rfl
    | true =>
     simp only [if_true, Bool.true_eq_false, if_false]
     cases Ge kv 0 es with
     | none => rfl
     | some r => cases r <;> simp [Gv, fin, Gk, Qe, Yt]
  all_goals
   simp only []
   cases h : hp[r]? with
   | none => rfl
   | some o => cases o <;> rfl
 | insert kk m ke v =>
  simp only [Xz, Qm, Q7o, Qk, Ww]
  cases Q1 tm m <;> try rfl
  rename_i r
  cases Q1 tm ke
  case p kv =>
   simp only []
   cases h : hp[r]? with
   | none => rfl
   | some o =>
    cases o <;> try rfl
    rename_i es
    simp only [Q06, Yv]
    cases Vo kk kv with
    | false => rfl
    | true =>
     simp only [if_true, Bool.true_eq_false, if_false]
     cases Ge kv 0 es with
     | none => rfl
     | some r => cases r <;> simp [Gv, Vf, fin, Gk]
  all_goals
   simp only []
   cases h : hp[r]? with
   | none => rfl
   | some o => cases o <;> rfl
 | lookup kk z agg ok m ke =>
  simp only [Xz, Qm, Q8w, Qk, Ww]
  cases Q1 tm m
  case map r =>
   cases Q1 tm ke
   case p kv =>
    simp only []
    cases h : hp[r]? with
    | none => rfl
    | some o =>
     cases o <;> try rfl
     rename_i es
     simp only [Q06, Yv]
     cases Vo kk kv with
     | false => rfl
     | true =>
      simp only [if_true, Bool.true_eq_false, if_false]
      cases Ge kv 0 es with
      | none => rfl
      | some r =>
       cases r with
       | none =>
        simp only [Yr, Wu, W8]
        cases sOf agg (z.map AV.p) <;> cases ok <;> rfl
       | some r => cases ok <;> rfl
   all_goals
    simp only []
    cases h : hp[r]? with
    | none => rfl
    | some o => cases o <;> rfl
  case p mv =>
   cases mv <;> try (cases Q1 tm ke <;> rfl)
   rename_i ps
   cases Q1 tm ke <;> try rfl
   rename_i kv
   simp only [Yv, Q74]
   cases Vo kk kv with
   | false => rfl
   | true =>
    simp only [if_true, Bool.true_eq_false, if_false]
    cases Q7k kv ps with
    | none => rfl
    | some r =>
     cases r with
     | none =>
      simp only [Yr, Wu, W8]
      cases sOf agg (z.map AV.p) <;> cases ok <;> rfl
     | some r => cases ok <;> rfl
  all_goals (cases Q1 tm ke <;> rfl)
 | makeSlice z bytes l c =>
  simp only [Xz, Qm, Q2z, Qk]
  cases Q1 tm l <;> try rfl
  rename_i v; cases v <;> try rfl
  simp only []
  cases Q1 tm c <;> try rfl
  rename_i v; cases v <;> try rfl
  simp only [Yv, Yr, G4]
  rename_i l _ c
  by_cases h1 : 0 ≤ l <;> by_cases h2 : l ≤ c <;> by_cases h3 : c * bytes ≤ 1099511627776 <;> simp [h1, h2, h3, fin, Vz]
 | sliceStr x lo hi =>
  simp only [Xz, Qm, Q3k, Qk, Q9n, Q71, Yv]
  cases Q1 tm x <;> try rfl
  rename_i v; cases v <;> try rfl
  rename_i s
  simp only []
  cases Q2w 0 (lo.map (Q1 tm)) <;> try rfl
  rename_i l
  simp only []
  cases Q2w s.length (hi.map (Q1 tm)) <;> try rfl
  rename_i h
  by_cases h1 : l ≤ h <;> by_cases h2 : h ≤ s.length <;> simp [h1, h2, fin, Qe, Yt]
 | slice esz x lo hi =>
  simp only [Xz, Qm, Qb2, Qk, Q9n, Q71, Yv]
  cases Q1 tm x <;> try rfl
  ·rename_i v; cases v <;> try rfl
   rename_i es s
   simp only []
   cases Q2w 0 (lo.map (Q1 tm)) <;> try rfl
   rename_i l
   simp only []
   cases Q2w s.length (hi.map (Q1 tm)) <;> try rfl
   rename_i h
   by_cases h0 : es = esz <;> by_cases h1 : l ≤ h <;> by_cases h2 : h ≤ s.length <;> simp [h0, h1, h2, fin, Qe, Yt]
  ·rename_i es a off s
   simp only []
   cases Q2w 0 (lo.map (Q1 tm)) <;> try rfl
   rename_i l
   simp only []
   cases Q2w s (hi.map (Q1 tm)) <;> try rfl
   rename_i h
   by_cases h0 : es = esz <;> by_cases h1 : l ≤ h <;> by_cases h2 : h ≤ s <;> simp [h0, h1, h2, fin, Qe, Yt]
 | sliceArr n esz x lo hi =>
  simp only [Xz, Qm, Q3r, Qk, Q9n, Q71, Yv, Ww]
  cases Q1 tm x <;> try rfl
  rename_i a off
  simp only []
  cases hp[a]? with
  | none => rfl
  | some o =>
   cases o <;> try rfl
   rename_i cs
   simp only []
   cases Q2w 0 (lo.map (Q1 tm)) <;> try rfl
   rename_i l
   simp only []
   cases Q2w n (hi.map (Q1 tm)) <;> try rfl
   rename_i h
   by_cases h0 : off + n * esz ≤ cs.length <;> by_cases h1 : l ≤ h <;> by_cases h2 : h ≤ n <;> simp [h0, h1, h2, fin, Qe, Yt]
 | fieldAddr x off => simp only [Xz, Qm, Q33, Qk, Wr]; cases Q1 tm x <;> rfl
 | field x off n agg =>
  simp only [Xz, Qm, Qbj, Qk, Qdi]
  cases (Q1 tm x).aggs? <;> try rfl
  simp only [Wr, Ud, Wu, W8]
  rename_i cs
  cases U3 n (cs.drop off) with
  | none => rfl
  | some cs => simp only []; cases sOf agg cs <;> rfl
 | indexAddr esz x i =>
  simp only [Xz, Qm, Q2u, Qk, Yv, Qgj]
  cases Q1 tm x <;> try rfl
  ·rename_i v; cases v <;> try rfl
   simp only []
   cases Q1 tm i <;> try rfl
   rename_i v; cases v <;> try rfl
   rename_i es rows _ n
   by_cases h0 : es = esz <;> cases hi : idx rows n <;> simp [h0, hi, fin, Qe, Yt]
  ·simp only []
   cases Q1 tm i <;> try rfl
   rename_i v; cases v <;> try rfl
   rename_i es a off len _ n
   by_cases h1 : 0 ≤ n <;> by_cases h2 : n < len <;> simp [h1, h2, fin, Qe, Yt]
 | indexArr len esz x i =>
  simp only [Xz, Qm, Q46, Qk, Yv]
  cases Q1 tm x <;> try rfl
  all_goals
   simp only []
   cases Q1 tm i <;> try rfl
   rename_i v; cases v <;> try rfl
   rename_i n
   by_cases h1 : 0 ≤ n <;> by_cases h2 : n < len <;> simp [h1, h2, fin, Qe, Yt]
 | indexStr x i =>
  simp only [Xz, Qm, Q3i, Qk, Qgj]
  cases Q1 tm x <;> try rfl
  rename_i v; cases v <;> try rfl
  simp only []
  cases Q1 tm i <;> try rfl
  rename_i v; cases v <;> try rfl
  simp only [W8]
  rename_i s _ n
  cases idx s n <;> rfl
 | extract x i =>
  simp only [Xz, Qm, Q63, Qk]
  cases Q1 tm x <;> try rfl
  ·rename_i v; cases v <;> try rfl
   rename_i vs
   simp only [W8]
   cases vs[i]? <;> rfl
  ·rename_i vs
   simp only [W8]
   cases vs[i]? <;> rfl
 | lenStr x =>
  simp only [Xz, Qm, Q96, Qk]
  cases Q1 tm x <;> try rfl
  rename_i v; cases v <;> rfl
 | lenSl x =>
  simp only [Xz, Qm, Qaw, Qk]
  cases Q1 tm x <;> try rfl
  rename_i v; cases v <;> rfl
 | lenMap x =>
  simp only [Xz, Qm, Q8i, Qk, Ww]
  cases Q1 tm x <;> try rfl
  ·rename_i v; cases v <;> rfl
  ·rename_i r
   simp only []
   cases hp[r]? with
   | none => rfl
   | some o => cases o <;> rfl
 | append esz bytes s x => simp only [Xz, Qm]; exact Q34 ..
 | appendT esz bytes s x =>
  simp only [Xz, Qm, Q5l, Qk, Q34, Q9f]
  cases hs : Q1 tm s <;> try rfl
  rename_i es a off len
  simp only [Ww, Yv, Q1h, Gv]
  cases hp[a]? with
  | none => rfl
  | some o =>
   cases o <;> try rfl
   rename_i cs
   simp only []
   by_cases h0 : off + len * esz ≤ cs.length
   ·have h1 : Nat.ble (off + len * esz) cs.length = true := by simpa using h0
    rw [h1, if_pos h0, if_pos rfl]
    rw [List.length_set]
    cases hq : Q4u (hp.set a (.cells (cs.take (off + len * esz)))) hp.length esz bytes (.slice es a off len) (Q1 tm x) with
    | none => rfl
    | some q =>
     obtain ⟨v, e⟩ := q
     show k v (e.apply (hp.set a (.cells (cs.take (off + len * esz)))) (hp.set a (.cells (cs.take (off + len * esz)))).length) = k v ((e.pre a (.cells (cs.take (off + len * esz)))).apply hp hp.length)
     rw [Q7t (Q9c hq), List.length_set]
   ·have h1 : Nat.ble (off + len * esz) cs.length = false := by rw [← Bool.not_eq_true, Nat.ble_eq]; exact h0
    rw [h1, if_neg h0]; rfl
 | copyB d s =>
  have hc : ∀ new, (match Q1 tm d with
    | .p .nilSlice => k (.p (.int .i64 0)) hp
    | .slice es a off len => Q8j E hp a fun
     | .cells cs => chk E (Nat.beq es 1 && (Nat.ble (off + len) cs.length && Nat.ble 1 len))
      (Q99 len new cs off fun n cs => Qcu hp a (.cells cs) fun hp => k (.p (.int .i64 n)) hp)
     | _ => E.fail
    | _ => E.fail) = fin E hp k (Q9r hp (Q1 tm d) new) := fun new => by
   simp only [Ww, Yv, Q99, Q1h, Q6y, Q08, Gv, Q9r]
   cases Q1 tm d <;> try rfl
   ·rename_i v; cases v <;> rfl
   ·rename_i es a off len
    simp only []
    cases hp[a]? with
    | none => rfl
    | some o =>
     cases o <;> try rfl
     rename_i cs
     simp only []
     by_cases h1 : es = 1 <;> by_cases h2 : off + len ≤ cs.length <;> by_cases h3 : 1 ≤ len <;> simp [h1, h2, h3, fin, Gk] <;> omega
  simp only [Xz, Qm, Qaf, Qk, Qhs]
  cases Qej hp (Q1 tm s) with
  | none => rfl
  | some new => exact hc new
 | max x y =>
  simp only [Xz, Qm, Qh5, Qk, Vj]
  cases Q1 tm x <;> try rfl
  rename_i v; cases v <;> try rfl
  simp only []
  cases Q1 tm y <;> try rfl
  rename_i v; cases v <;> try rfl
  simp [fin, Qe, Yt]
 | min x y =>
  simp only [Xz, Qm, Qgn, Qk, Vj]
  cases Q1 tm x <;> try rfl
  rename_i v; cases v <;> try rfl
  simp only []
  cases Q1 tm y <;> try rfl
  rename_i v; cases v <;> try rfl
  simp [fin, Qe, Yt]
end
end
end Go.Av
