/- An abstract machine for the modelled code, and what its runs say of real calls. Part of a proof of a given statement: for every input the law returns true and the arguments read as before; no condition beyond the given row. -/
import Derived.Test.YtkemhhfbpniioaaGreatDoorAvStep
namespace Go.Av
noncomputable section
universe u
section
variable {α : Type u} (E : Env α)
def fin (E : Env α) (hp : List AObj) (k : AV → List AObj → α) : Option (AV × Eff) → α
 | some (v, e) => k v (e.apply hp hp.length)
 | none => E.fail
theorem Qhc (hp : List AObj) (k : AV → List AObj → α) : fin E hp k none = E.fail := rfl
theorem Qgp (hp : List AObj) (k : AV → List AObj → α) (v : AV) (e : Eff) : fin E hp k (some (v, e)) = k v (e.apply hp hp.length) := rfl
theorem Q17 {β : Type} (hp : List AObj) (k : AV → List AObj → α) (o : Option β) (f : β → Option (AV × Eff)) : fin E hp k (o.bind f) = (match o with
  | some b => fin E hp k (f b)
  | none => E.fail) := by cases o <;> rfl
theorem Qpp {β : Type} (hp : List AObj) (k : AV → List AObj → α) (o : Option β) (f : β → AV × Eff) : fin E hp k (o.map f) = (match o with
  | some b => fin E hp k (some (f b))
  | none => E.fail) := by cases o <;> rfl
theorem Q3r (hp : List AObj) (o : AObj) : ({ new := some o } : Eff).apply hp hp.length = hp ++ [o] := by simp [Eff.apply, plc]
theorem Qct (hp : List AObj) (n : Nat) (a : Nat) (o : AObj) : ({ set := some (a, o) } : Eff).apply hp n = hp.set a o := by simp [Eff.apply]
theorem Qo9 (hp : List AObj) (a : Nat) (o o' : AObj) : ({ set := some (a, o), new := some o' } : Eff).apply hp hp.length = hp.set a o ++ [o'] := by simp [Eff.apply, plc]
theorem Q02 (hp : List AObj) (n : Nat) : ({} : Eff).apply hp n = hp := rfl

theorem Qwi (hp : List AObj) (esz bytes : Nat) (s : AV) (new : List AV) (n : Nat) (k : AV → List AObj → α) :
  Qy7 E hp esz bytes s new n k = fin E hp k (Qi7 hp hp.length esz bytes s new n) := by
 unfold Qy7 Qi7
 by_cases hn : n = 0
 ·subst hn
  simp only [ifB, if_true]
  cases s with
  | p v => cases v <;> rfl
  | _ => rfl
 ·have : Nat.beq n 0 = false := by cases n <;> first | rfl | simp_all
  simp only [this, ifB, hn, if_false]
  cases s with
  | p v =>
   cases v <;> (try rfl)
   by_cases h3 : (n + 4096) * bytes ≤ 17592186044416 <;> simp [Gr, Q7j, h3, fin, Q3r]
  | slice es a off len =>
   simp only [Q2i]
   cases h : hp[a]? with
   | none => rfl
   | some o =>
    cases o <;> simp only [Gr, Q1a, Q23, Qb1, Q7j, fin] <;> (try rfl)
    by_cases h1 : es = esz <;> rename_i cs <;> by_cases h2 : off + len * esz = cs.length <;> by_cases h3 : (len + n + 4096) * bytes ≤ 17592186044416 <;> simp [h1, h2, h3, Qo9, List.length_set]
  | _ => rfl

theorem Qw8 (hp : List AObj) (K : List AV → α) (v : AV) : Z0b E hp K v = (match Qqv hp v with
  | some new => K new
  | none => E.fail) := by
 unfold Z0b Qqv
 cases v <;> try rfl
 ·rename_i p; cases p <;> try rfl
  ·simp [Uy]
  ·rename_i es rows
   simp only [Gr, Uy]
   by_cases h0 : es = 1
   ·simp [h0]
   ·have : Nat.beq es 1 = false := by rw [← Bool.not_eq_true, Nat.beq_eq]; exact h0
    simp [h0, this]
 ·rename_i es b off n
  simp only [Q2i, Q1a, Gr, Q31]
  cases hp[b]? with
  | none => rfl
  | some o =>
   cases o <;> try rfl
   rename_i cs
   by_cases h0 : es = 1
   ·simp only [h0, if_true, Nat.beq_refl]
    cases Q2q n (cs.drop off) <;> rfl
   ·have : Nat.beq es 1 = false := by rw [← Bool.not_eq_true, Nat.beq_eq]; exact h0
    simp [h0, this]
theorem Qbx (tm : List AV) (hp : List AObj) (k : AV → List AObj → α) (esz bytes : Nat) (s x : Opd) : Q7m E tm hp k esz bytes s x = fin E hp k (Qew hp hp.length esz bytes (Qb tm s) (Qb tm x)) := by
 simp only [Qew, Q7m, Zm, Q2i, Gr, Qwi, Uy, Q1a, Q31]
 cases Qb tm x <;> try rfl
 ·rename_i v; cases v <;> try rfl
  ·rename_i b
   by_cases h0 : esz = 1
   ·simp [h0]
   ·have : Nat.beq esz 1 = false := by rw [← Bool.not_eq_true, Nat.beq_eq]; exact h0
    simp [h0, this, Qhc]
  ·rename_i es rows
   by_cases h0 : es = esz
   ·simp [h0]
   ·have : Nat.beq es esz = false := by rw [← Bool.not_eq_true, Nat.beq_eq]; exact h0
    simp [h0, this, Qhc]
 ·rename_i es b off n
  simp only []
  cases hp[b]? with
  | none => rfl
  | some o =>
   cases o <;> try rfl
   rename_i cs
   by_cases h0 : es = esz
   ·simp only [h0, if_true, Q17, Nat.beq_refl]
    cases Q2q (n * esz) (cs.drop off) <;> rfl
   ·have : Nat.beq es esz = false := by rw [← Bool.not_eq_true, Nat.beq_eq]; exact h0
    simp [h0, this, Qhc]
theorem Qe9 (tm : List AV) (hp : List AObj) (k : AV → List AObj → α) (c : COp) (hc : c.isCall = false) :
  Q0z E tm hp k c = fin E hp k (Zp E.glob tm hp hp.length c) := by
 cases c with
 | call f args => cases hc
 | callv f args => cases hc
 | move x => simp only [Q0z, Zp, Qpy, Zm]; rfl
 | pick c a b =>
  simp only [Q0z, Zp, Qpj, Zm, Q2x]
  cases Qb tm c <;> try rfl
  rename_i v; cases v <;> try rfl
  rename_i b; cases b <;> rfl
 | alloc z => simp only [Q0z, Zp, Qnv, Uy, Q7j, Qgp, Q3r]
 | box x =>
  simp only [Q0z, Zp, Qvz, Zm, Qd6, Q7j, Qpp, Qgp, Q3r]
  cases (Qb tm x).cells? <;> rfl
 | build z ps =>
  simp only [Q0z, Zp, Qm0, Uy, Qgx, Q17]
  cases Q66 tm (z.map AV.p) ps <;> rfl
 | buildSlice z len esz ps =>
  simp only [Q0z, Zp, Q9p, Uy, Qgx, Q7j, Qpp, Qgp, Q3r]
  cases Q66 tm ((List.replicate len z).flatten.map AV.p) ps <;> rfl
 | load n agg x =>
  simp only [Q0z, Zp, Qse, Zm, Q92, Q31, Q3m, Q17]
  cases Q0u E.glob hp (Qb tm x) with
  | none => rfl
  | some cs =>
   simp only []
   cases Q2q n cs with
   | none => rfl
   | some cs => simp only []; cases sOf agg cs <;> rfl
 | store n x y =>
  simp only [Q0z, Zp, Qm9, Zm, Q2i, Qd6, Gr, Q4z, Qb1]
  cases Qb tm x <;> try rfl
  rename_i a off
  simp only []
  cases hp[a]? with
  | none => rfl
  | some o =>
   cases o <;> try rfl
   rename_i cs
   simp only []
   cases (Qb tm y).cells? with
   | none => rfl
   | some v =>
    simp only []
    by_cases h1 : v.length = n <;> by_cases h2 : off + n ≤ cs.length <;> simp [h1, h2, fin, Qct]
 | nilCheck x =>
  simp only [Q0z, Zp, Qdb, Zm]
  cases Qb tm x <;> try rfl
  ·rename_i v; cases v <;> try rfl
   rename_i fn a b; cases fn <;> rfl
  ·rename_i fn a b; cases fn <;> rfl
 | ari op x y =>
  simp only [Q0z, Zp, Qvb, Zm]
  cases Qb tm x <;> try rfl
  rename_i v
  cases v <;> try rfl
  ·simp only []
   cases Qb tm y <;> try rfl
   rename_i v
   cases v <;> try rfl
   simp only [Qw7, Gr]
   rename_i i x j y
   cases Qgk op i j
   ·rfl
   ·simp only [if_true, Q17]
    cases Qxw op i x y <;> rfl
  ·simp only []
   cases Qb tm y <;> try rfl
   rename_i v
   cases v <;> try rfl
   cases op <;> try rfl
   simp only [Gr]
   rename_i s t
   by_cases h : s.length + t.length ≤ 4611686018427387904 <;> simp [h, fin, Zb, Q02]
 | cmp op x y =>
  simp only [Q0z, Zp, Qw2, Zm, Q17]
  cases Qb tm x <;> try rfl
  rename_i v
  cases v <;> try rfl
  ·simp only []
   cases Qb tm y <;> try rfl
   rename_i v
   cases v <;> try rfl
   rename_i i x j y
   simp only [Gr, Qzc]
   cases i == j <;> rfl
  ·simp only []
   cases Qb tm y <;> try rfl
   rename_i v
   cases v <;> rfl
 | eqB neg x y =>
  simp only [Q0z, Zp, Qw4, Zm]
  cases Qb tm x <;> try rfl
  rename_i v
  cases v <;> try rfl
  simp only []
  cases Qb tm y <;> try rfl
  rename_i v
  cases v <;> try rfl
  cases neg <;> rfl
 | eqP neg x y =>
  simp only [Q0z, Zp, Qvs, Zm]
  cases Qb tm x <;> try rfl
  ·rename_i v
   cases v <;> try rfl
   simp only []
   cases Qb tm y <;> try rfl
   rename_i v
   cases v <;> rfl
  ·simp only []
   cases Qb tm y <;> try rfl
   rename_i v
   cases v <;> rfl
 | eqAgg neg kinds x y =>
  simp only [Q0z, Zp, Qm8, Zm, Qri]
  cases (Qb tm x).aggs? <;> try rfl
  simp only []
  cases (Qb tm y).aggs? <;> try rfl
  simp only [Qod, Q17, Q2x]
  rename_i cs ds
  cases Gu kinds cs ds <;> rfl
 | not x =>
  simp only [Q0z, Zp, Qv8, Zm]; cases Qb tm x <;> try rfl
  rename_i v; cases v <;> rfl
 | neg x =>
  simp only [Q0z, Zp, Qvv, Zm]; cases Qb tm x <;> try rfl
  rename_i v; cases v <;> rfl
 | conv i x =>
  simp only [Q0z, Zp, Qpl, Zm]; cases Qb tm x <;> try rfl
  rename_i v; cases v <;> rfl
 | bytesOf x =>
  simp only [Q0z, Zp, Qge, Zm]; cases Qb tm x <;> try rfl
  rename_i v; cases v <;> try rfl
  simp only [Uy, Q7j, fin, Q3r]
 | strOf x =>
  simp only [Q0z, Zp, Qng, Zm, Q2i]
  cases Qb tm x <;> try rfl
  ·rename_i v; cases v <;> rfl
  ·rename_i es a off len
   simp only []
   cases hp[a]? with
   | none => rfl
   | some o =>
    cases o <;> try rfl
    simp only [Q1a, Q31, Qea, Q17]
    rename_i cs
    cases Q2q len (cs.drop off) with
    | none => rfl
    | some cs => simp only []; cases Qm3 cs <;> rfl
 | makeFunc fn a b => simp only [Q0z, Zp, Qcx, Q0p]; rfl
 | makeMap => simp only [Q0z, Zp, Qfw, Q7j, fin, Q3r]
 | insert kk m ke v =>
  simp only [Q0z, Zp, Qij, Zm, Q2i]
  cases Qb tm m <;> try rfl
  rename_i r
  cases Qb tm ke
  case p kv =>
   simp only []
   cases h : hp[r]? with
   | none => rfl
   | some o =>
    cases o <;> try rfl
    rename_i es
    simp only [Qav, Gr]
    cases Q73 kk kv with
    | false => rfl
    | true =>
     simp only [if_true, Bool.true_eq_false, if_false]
     cases Qbb kv 0 es with
     | none => rfl
     | some r => cases r <;> simp [Qb1, Q23, fin, Qct]
  all_goals
   simp only []
   cases h : hp[r]? with
   | none => rfl
   | some o => cases o <;> rfl
 | lookup kk z agg ok m ke =>
  simp only [Q0z, Zp, Qjd, Zm, Q2i]
  cases Qb tm m <;> try rfl
  rename_i r
  cases Qb tm ke
  case p kv =>
   simp only []
   cases h : hp[r]? with
   | none => rfl
   | some o =>
    cases o <;> try rfl
    rename_i es
    simp only [Qav, Gr]
    cases Q73 kk kv with
    | false => rfl
    | true =>
     simp only [if_true, Bool.true_eq_false, if_false]
     cases Qbb kv 0 es with
     | none => rfl
     | some r =>
      cases r with
      | none =>
       simp only [Uy, Q3m, Q17]
       cases sOf agg (z.map AV.p) <;> cases ok <;> rfl
      | some r => cases ok <;> rfl
  all_goals
   simp only []
   cases h : hp[r]? with
   | none => rfl
   | some o => cases o <;> rfl
 | makeSlice z bytes l c =>
  simp only [Q0z, Zp, Qbr, Zm]
  cases Qb tm l <;> try rfl
  rename_i v; cases v <;> try rfl
  simp only []
  cases Qb tm c <;> try rfl
  rename_i v; cases v <;> try rfl
  simp only [Gr, Uy, Q7j]
  rename_i l _ c
  by_cases h1 : 0 ≤ l <;> by_cases h2 : l ≤ c <;> by_cases h3 : c * bytes ≤ 1099511627776 <;> simp [h1, h2, h3, fin, Q3r]
 | sliceStr x lo hi =>
  simp only [Q0z, Zp, Qd7, Zm, Qlf, Qi2, Gr]
  cases Qb tm x <;> try rfl
  rename_i v; cases v <;> try rfl
  rename_i s
  simp only []
  cases Qc1 0 (lo.map (Qb tm)) <;> try rfl
  rename_i l
  simp only []
  cases Qc1 s.length (hi.map (Qb tm)) <;> try rfl
  rename_i h
  by_cases h1 : l ≤ h <;> by_cases h2 : h ≤ s.length <;> simp [h1, h2, fin, Zb, Q02]
 | slice esz x lo hi =>
  simp only [Q0z, Zp, Qmu, Zm, Qlf, Qi2, Gr]
  cases Qb tm x <;> try rfl
  ·rename_i v; cases v <;> try rfl
   rename_i es s
   simp only []
   cases Qc1 0 (lo.map (Qb tm)) <;> try rfl
   rename_i l
   simp only []
   cases Qc1 s.length (hi.map (Qb tm)) <;> try rfl
   rename_i h
   by_cases h0 : es = esz <;> by_cases h1 : l ≤ h <;> by_cases h2 : h ≤ s.length <;> simp [h0, h1, h2, fin, Zb, Q02]
  ·rename_i es a off s
   simp only []
   cases Qc1 0 (lo.map (Qb tm)) <;> try rfl
   rename_i l
   simp only []
   cases Qc1 s (hi.map (Qb tm)) <;> try rfl
   rename_i h
   by_cases h0 : es = esz <;> by_cases h1 : l ≤ h <;> by_cases h2 : h ≤ s <;> simp [h0, h1, h2, fin, Zb, Q02]
 | sliceArr n esz x lo hi =>
  simp only [Q0z, Zp, Qdy, Zm, Qlf, Qi2, Gr, Q2i]
  cases Qb tm x <;> try rfl
  rename_i a off
  simp only []
  cases hp[a]? with
  | none => rfl
  | some o =>
   cases o <;> try rfl
   rename_i cs
   simp only []
   cases Qc1 0 (lo.map (Qb tm)) <;> try rfl
   rename_i l
   simp only []
   cases Qc1 n (hi.map (Qb tm)) <;> try rfl
   rename_i h
   by_cases h0 : off + n * esz ≤ cs.length <;> by_cases h1 : l ≤ h <;> by_cases h2 : h ≤ n <;> simp [h0, h1, h2, fin, Zb, Q02]
 | fieldAddr x off => simp only [Q0z, Zp, Qbj, Zm, Q1a]; cases Qb tm x <;> rfl
 | field x off n agg =>
  simp only [Q0z, Zp, Qm6, Zm, Qri]
  cases (Qb tm x).aggs? <;> try rfl
  simp only [Q1a, Q31, Q3m, Q17]
  rename_i cs
  cases Q2q n (cs.drop off) with
  | none => rfl
  | some cs => simp only []; cases sOf agg cs <;> rfl
 | indexAddr esz x i =>
  simp only [Q0z, Zp, Qbw, Zm, Gr, Qsx]
  cases Qb tm x <;> try rfl
  ·rename_i v; cases v <;> try rfl
   simp only []
   cases Qb tm i <;> try rfl
   rename_i v; cases v <;> try rfl
   rename_i es rows _ n
   by_cases h0 : es = esz <;> cases hi : idx rows n <;> simp [h0, hi, fin, Zb, Q02]
  ·simp only []
   cases Qb tm i <;> try rfl
   rename_i v; cases v <;> try rfl
   rename_i es a off len _ n
   by_cases h1 : 0 ≤ n <;> by_cases h2 : n < len <;> simp [h1, h2, fin, Zb, Q02]
 | indexArr len esz x i =>
  simp only [Q0z, Zp, Qcv, Zm, Gr]
  cases Qb tm x <;> try rfl
  all_goals
   simp only []
   cases Qb tm i <;> try rfl
   rename_i v; cases v <;> try rfl
   rename_i n
   by_cases h1 : 0 ≤ n <;> by_cases h2 : n < len <;> simp [h1, h2, fin, Zb, Q02]
 | indexStr x i =>
  simp only [Q0z, Zp, Qer, Zm, Qsx]
  cases Qb tm x <;> try rfl
  rename_i v; cases v <;> try rfl
  simp only []
  cases Qb tm i <;> try rfl
  rename_i v; cases v <;> try rfl
  simp only [Q17]
  rename_i s _ n
  cases idx s n <;> rfl
 | extract x i =>
  simp only [Q0z, Zp, Qfn, Zm]
  cases Qb tm x <;> try rfl
  ·rename_i v; cases v <;> try rfl
   rename_i vs
   simp only [Q17]
   cases vs[i]? <;> rfl
  ·rename_i vs
   simp only [Q17]
   cases vs[i]? <;> rfl
 | lenStr x =>
  simp only [Q0z, Zp, Qjr, Zm]
  cases Qb tm x <;> try rfl
  rename_i v; cases v <;> rfl
 | lenSl x =>
  simp only [Q0z, Zp, Qn8, Zm]
  cases Qb tm x <;> try rfl
  rename_i v; cases v <;> rfl
 | lenMap x =>
  simp only [Q0z, Zp, Qju, Zm, Q2i]
  cases Qb tm x <;> try rfl
  ·rename_i v; cases v <;> rfl
  ·rename_i r
   simp only []
   cases hp[r]? with
   | none => rfl
   | some o => cases o <;> rfl
 | append esz bytes s x => simp only [Q0z, Zp]; exact Qbx ..
 | appendT esz bytes s x =>
  simp only [Q0z, Zp, Qga, Zm, Qbx, Qlc]
  cases hs : Qb tm s <;> try rfl
  rename_i es a off len
  simp only [Q2i, Gr, Q83, Qb1]
  cases hp[a]? with
  | none => rfl
  | some o =>
   cases o <;> try rfl
   rename_i cs
   simp only []
   by_cases h0 : off + len * esz ≤ cs.length
   ·have h1 : Nat.ble (off + len * esz) cs.length = true := by simpa using h0
    rw [h1, if_pos h0, if_pos rfl]
    rw [List.length_set]
    cases hq : Qew (hp.set a (.cells (cs.take (off + len * esz)))) hp.length esz bytes (.slice es a off len) (Qb tm x) with
    | none => rfl
    | some q =>
     obtain ⟨v, e⟩ := q
     show k v (e.apply (hp.set a (.cells (cs.take (off + len * esz)))) (hp.set a (.cells (cs.take (off + len * esz)))).length) = k v ((e.pre a (.cells (cs.take (off + len * esz)))).apply hp hp.length)
     rw [Qir (Ql2 hq), List.length_set]
   ·have h1 : Nat.ble (off + len * esz) cs.length = false := by rw [← Bool.not_eq_true, Nat.ble_eq]; exact h0
    rw [h1, if_neg h0]; rfl
 | copyB d s =>
  have hc : ∀ new, (match Qb tm d with
    | .p .nilSlice => k (.p (.int .i64 0)) hp
    | .slice es a off len => Qky E hp a fun
     | .cells cs => chk E (Nat.beq es 1 && (Nat.ble (off + len) cs.length && Nat.ble 1 len))
      (Qce len new cs off fun n cs => Qv5 hp a (.cells cs) fun hp => k (.p (.int .i64 n)) hp)
     | _ => E.fail
    | _ => E.fail) = fin E hp k (Qkz hp (Qb tm d) new) := fun new => by
   simp only [Q2i, Gr, Qce, Q83, Qcu, Q4z, Qb1, Qkz]
   cases Qb tm d <;> try rfl
   ·rename_i v; cases v <;> rfl
   ·rename_i es a off len
    simp only []
    cases hp[a]? with
    | none => rfl
    | some o =>
     cases o <;> try rfl
     rename_i cs
     simp only []
     by_cases h1 : es = 1 <;> by_cases h2 : off + len ≤ cs.length <;> by_cases h3 : 1 ≤ len <;> simp [h1, h2, h3, fin, Qct] <;> omega
  simp only [Q0z, Zp, Qnl, Zm, Qw8]
  cases Qqv hp (Qb tm s) with
  | none => rfl
  | some new => exact hc new
 | max x y =>
  simp only [Q0z, Zp, Qvf, Zm, Q2x]
  cases Qb tm x <;> try rfl
  rename_i v; cases v <;> try rfl
  simp only []
  cases Qb tm y <;> try rfl
  rename_i v; cases v <;> try rfl
  simp [fin, Zb, Q02]
 | min x y =>
  simp only [Q0z, Zp, Qvu, Zm, Q2x]
  cases Qb tm x <;> try rfl
  rename_i v; cases v <;> try rfl
  simp only []
  cases Qb tm y <;> try rfl
  rename_i v; cases v <;> try rfl
  simp [fin, Zb, Q02]
end
end
end Go.Av
