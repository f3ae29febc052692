/- An abstract machine for the modelled code, and what its runs say of real calls. Part of a proof of a given statement: for every input the law returns true and the arguments read as before; no condition beyond the given row. -/
import Derived.Test.YtegedmcbfmfjeaaDoorAvStep
namespace Go.Av
noncomputable section
universe u
section
variable {α : Type u} (E : Env α)
def fin (E : Env α) (hp : List AObj) (k : AV → List AObj → α) : Option (AV × Eff) → α
 | some (v, e) => k v (e.apply hp hp.length)
 | none => E.fail
theorem Q6r (hp : List AObj) (k : AV → List AObj → α) : fin E hp k none = E.fail := rfl
theorem Q6v (hp : List AObj) (k : AV → List AObj → α) (v : AV) (e : Eff) : fin E hp k (some (v, e)) = k v (e.apply hp hp.length) := rfl
theorem Wf {β : Type} (hp : List AObj) (k : AV → List AObj → α) (o : Option β) (f : β → Option (AV × Eff)) : fin E hp k (o.bind f) = (match o with
  | some b => fin E hp k (f b)
  | none => E.fail) := by cases o <;> rfl
theorem Qdj {β : Type} (hp : List AObj) (k : AV → List AObj → α) (o : Option β) (f : β → AV × Eff) : fin E hp k (o.map f) = (match o with
  | some b => fin E hp k (some (f b))
  | none => E.fail) := by cases o <;> rfl
theorem Vv (hp : List AObj) (o : AObj) : ({ new := some o } : Eff).apply hp hp.length = hp ++ [o] := by simp [Eff.apply, plc]
theorem Q3g (hp : List AObj) (n : Nat) (a : Nat) (o : AObj) : ({ set := some (a, o) } : Eff).apply hp n = hp.set a o := by simp [Eff.apply]
theorem Qbt (hp : List AObj) (a : Nat) (o o' : AObj) : ({ set := some (a, o), new := some o' } : Eff).apply hp hp.length = hp.set a o ++ [o'] := by simp [Eff.apply, plc]
theorem Xj (hp : List AObj) (n : Nat) : ({} : Eff).apply hp n = hp := rfl

theorem Qit (hp : List AObj) (esz bytes : Nat) (s : AV) (new : List AV) (n : Nat) (k : AV → List AObj → α) :
  Qj2 E hp esz bytes s new n k = fin E hp k (Q7b hp hp.length esz bytes s new n) := by
 unfold Qj2 Q7b
 by_cases hn : n = 0
 ·subst hn
  simp only [ifB, if_true]
  cases s with
  | p v => cases v <;> rfl
  | _ => rfl
 ·have : Nat.beq n 0 = false := by cases n <;> first | rfl | simp_all
  simp only [this, ifB, hn, if_false]
  cases s with
  | p v =>
   cases v <;> (try rfl)
   by_cases h3 : (n + 4096) * bytes ≤ 17592186044416 <;> simp [X7, G2, h3, fin, Vv]
  | slice es a off len =>
   simp only [Wz]
   cases h : hp[a]? with
   | none => rfl
   | some o =>
    cases o <;> simp only [X7, Xo, Wp, Q1v, G2, fin] <;> (try rfl)
    by_cases h1 : es = esz <;> rename_i cs <;> by_cases h2 : off + len * esz = cs.length <;> by_cases h3 : (len + n + 4096) * bytes ≤ 17592186044416 <;> simp [h1, h2, h3, Qbt, List.length_set]
  | _ => rfl

theorem Qhi (hp : List AObj) (K : List AV → α) (v : AV) : Ql7 E hp K v = (match Qds hp v with
  | some new => K new
  | none => E.fail) := by
 unfold Ql7 Qds
 cases v <;> try rfl
 ·rename_i p; cases p <;> try rfl
  ·simp [Yo]
  ·rename_i es rows
   simp only [X7, Yo]
   by_cases h0 : es = 1
   ·simp [h0]
   ·have : Nat.beq es 1 = false := by rw [← Bool.not_eq_true, Nat.beq_eq]; exact h0
    simp [h0, this]
 ·rename_i es b off n
  simp only [Wz, Xo, X7, Wd]
  cases hp[b]? with
  | none => rfl
  | some o =>
   cases o <;> try rfl
   rename_i cs
   by_cases h0 : es = 1
   ·simp only [h0, if_true, Nat.beq_refl]
    cases Wj n (cs.drop off) <;> rfl
   ·have : Nat.beq es 1 = false := by rw [← Bool.not_eq_true, Nat.beq_eq]; exact h0
    simp [h0, this]
theorem Q23 (tm : List AV) (hp : List AObj) (k : AV → List AObj → α) (esz bytes : Nat) (s x : Opd) : Jx E tm hp k esz bytes s x = fin E hp k (Q4n hp hp.length esz bytes (Q4 tm s) (Q4 tm x)) := by
 simp only [Q4n, Jx, Qy, Wz, X7, Qit, Yo, Xo, Wd]
 cases Q4 tm x <;> try rfl
 ·rename_i v; cases v <;> try rfl
  ·rename_i b
   by_cases h0 : esz = 1
   ·simp [h0]
   ·have : Nat.beq esz 1 = false := by rw [← Bool.not_eq_true, Nat.beq_eq]; exact h0
    simp [h0, this, Q6r]
  ·rename_i es rows
   by_cases h0 : es = esz
   ·simp [h0]
   ·have : Nat.beq es esz = false := by rw [← Bool.not_eq_true, Nat.beq_eq]; exact h0
    simp [h0, this, Q6r]
 ·rename_i es b off n
  simp only []
  cases hp[b]? with
  | none => rfl
  | some o =>
   cases o <;> try rfl
   rename_i cs
   by_cases h0 : es = esz
   ·simp only [h0, if_true, Wf, Nat.beq_refl]
    cases Wj (n * esz) (cs.drop off) <;> rfl
   ·have : Nat.beq es esz = false := by rw [← Bool.not_eq_true, Nat.beq_eq]; exact h0
    simp [h0, this, Q6r]
theorem Q3t (tm : List AV) (hp : List AObj) (k : AV → List AObj → α) (c : COp) (hc : c.isCall = false) :
  Xq E tm hp k c = fin E hp k (Z4 E.glob tm hp hp.length c) := by
 cases c with
 | call f args => cases hc
 | callv f args => cases hc
 | move x => simp only [Xq, Z4, Q6y, Qy]; rfl
 | pick c a b =>
  simp only [Xq, Z4, Qcx, Qy, V5]
  cases Q4 tm c <;> try rfl
  rename_i v; cases v <;> try rfl
  rename_i b; cases b <;> rfl
 | alloc z => simp only [Xq, Z4, Qac, Yo, G2, Q6v, Vv]
 | box x =>
  simp only [Xq, Z4, Qgx, Qy, Q3e, G2, Qdj, Q6v, Vv]
  cases (Q4 tm x).cells? <;> rfl
 | build z ps =>
  simp only [Xq, Z4, Qas, Yo, Q5t, Wf]
  cases Uz tm (z.map AV.p) ps <;> rfl
 | buildSlice z len esz ps =>
  simp only [Xq, Z4, Q0f, Yo, Q5t, G2, Qdj, Q6v, Vv]
  cases Uz tm ((List.replicate len z).flatten.map AV.p) ps <;> rfl
 | load n agg x =>
  simp only [Xq, Z4, Qef, Qy, Q05, Wd, Vx, Wf]
  cases W1 E.glob hp (Q4 tm x) with
  | none => rfl
  | some cs =>
   simp only []
   cases Wj n cs with
   | none => rfl
   | some cs => simp only []; cases sOf agg cs <;> rfl
 | store n x y =>
  simp only [Xq, Z4, Qab, Qy, Wz, Q3e, X7, Un, Q1v]
  cases Q4 tm x <;> try rfl
  rename_i a off
  simp only []
  cases hp[a]? with
  | none => rfl
  | some o =>
   cases o <;> try rfl
   rename_i cs
   simp only []
   cases (Q4 tm y).cells? with
   | none => rfl
   | some v =>
    simp only []
    by_cases h1 : v.length = n <;> by_cases h2 : off + n ≤ cs.length <;> simp [h1, h2, fin, Q3g]
 | nilCheck x =>
  simp only [Xq, Z4, Q45, Qy]
  cases Q4 tm x <;> try rfl
  ·rename_i v; cases v <;> try rfl
   rename_i fn a b; cases fn <;> rfl
  ·rename_i fn a b; cases fn <;> rfl
 | ari op x y =>
  simp only [Xq, Z4, Qgy, Qy]
  cases Q4 tm x <;> try rfl
  rename_i v
  cases v <;> try rfl
  ·simp only []
   cases Q4 tm y <;> try rfl
   rename_i v
   cases v <;> try rfl
   simp only [Qih, X7]
   rename_i i x j y
   cases Q55 op i j
   ·rfl
   ·simp only [if_true, Wf]
    cases Qhy op i x y <;> rfl
  ·simp only []
   cases Q4 tm y <;> try rfl
   rename_i v
   cases v <;> try rfl
   cases op <;> try rfl
   simp only [X7]
   rename_i s t
   by_cases h : s.length + t.length ≤ 4611686018427387904 <;> simp [h, fin, Qx, Xj]
 | cmp op x y =>
  simp only [Xq, Z4, Qgz, Qy, Wf, E.cmp.2, E.scmp.2]
  cases Q4 tm x <;> try rfl
  rename_i v
  cases v <;> try rfl
  ·simp only []
   cases Q4 tm y <;> try rfl
   rename_i v
   cases v <;> try rfl
   rename_i i x j y
   simp only [X7, Qk0]
   cases i == j <;> rfl
  ·simp only []
   cases Q4 tm y <;> try rfl
   rename_i v
   cases v <;> rfl
 | eqB neg x y =>
  simp only [Xq, Z4, Qh2, Qy]
  cases Q4 tm x <;> try rfl
  rename_i v
  cases v <;> try rfl
  simp only []
  cases Q4 tm y <;> try rfl
  rename_i v
  cases v <;> try rfl
  cases neg <;> rfl
 | eqP neg x y =>
  simp only [Xq, Z4, Qh7, Qy]
  cases Q4 tm x <;> try rfl
  ·rename_i v
   cases v <;> try rfl
   simp only []
   cases Q4 tm y <;> try rfl
   rename_i v
   cases v <;> rfl
  ·simp only []
   cases Q4 tm y <;> try rfl
   rename_i v
   cases v <;> rfl
 | eqAgg neg kinds x y =>
  simp only [Xq, Z4, Qaj, Qy, Qf6]
  cases (Q4 tm x).aggs? <;> try rfl
  simp only []
  cases (Q4 tm y).aggs? <;> try rfl
  simp only [Qbn, Wf, V5]
  rename_i cs ds
  cases X9 kinds cs ds <;> rfl
 | not x =>
  simp only [Xq, Z4, Qh0, Qy]; cases Q4 tm x <;> try rfl
  rename_i v; cases v <;> rfl
 | neg x =>
  simp only [Xq, Z4, Qh6, Qy]; cases Q4 tm x <;> try rfl
  rename_i v; cases v <;> rfl
 | conv i x =>
  simp only [Xq, Z4, Qeg, Qy]; cases Q4 tm x <;> try rfl
  rename_i v; cases v <;> rfl
 | bytesOf x =>
  simp only [Xq, Z4, Q5d, Qy]; cases Q4 tm x <;> try rfl
  rename_i v; cases v <;> try rfl
  simp only [Yo, G2, fin, Vv]
 | strOf x =>
  simp only [Xq, Z4, Qb9, Qy, Wz]
  cases Q4 tm x <;> try rfl
  ·rename_i v; cases v <;> rfl
  ·rename_i es a off len
   simp only []
   cases hp[a]? with
   | none => rfl
   | some o =>
    cases o <;> try rfl
    simp only [Xo, Wd, Q39, Wf]
    rename_i cs
    cases Wj len (cs.drop off) with
    | none => rfl
    | some cs => simp only []; cases Qag cs <;> rfl
 | makeFunc fn a b => simp only [Xq, Z4, Q3a, Xz]; rfl
 | makeMap => simp only [Xq, Z4, Q5p, G2, fin, Vv]
 | insert kk m ke v =>
  simp only [Xq, Z4, Q7t, Qy, Wz]
  cases Q4 tm m <;> try rfl
  rename_i r
  cases Q4 tm ke
  case p kv =>
   simp only []
   cases h : hp[r]? with
   | none => rfl
   | some o =>
    cases o <;> try rfl
    rename_i es
    simp only [Q1k, X7]
    cases Je kk kv with
    | false => rfl
    | true =>
     simp only [if_true, Bool.true_eq_false, if_false]
     cases Q1i kv 0 es with
     | none => rfl
     | some r => cases r <;> simp [Q1v, Wp, fin, Q3g]
  all_goals
   simp only []
   cases h : hp[r]? with
   | none => rfl
   | some o => cases o <;> rfl
 | lookup kk z agg ok m ke =>
  simp only [Xq, Z4, Q7o, Qy, Wz]
  cases Q4 tm m <;> try rfl
  rename_i r
  cases Q4 tm ke
  case p kv =>
   simp only []
   cases h : hp[r]? with
   | none => rfl
   | some o =>
    cases o <;> try rfl
    rename_i es
    simp only [Q1k, X7]
    cases Je kk kv with
    | false => rfl
    | true =>
     simp only [if_true, Bool.true_eq_false, if_false]
     cases Q1i kv 0 es with
     | none => rfl
     | some r =>
      cases r with
      | none =>
       simp only [Yo, Vx, Wf]
       cases sOf agg (z.map AV.p) <;> cases ok <;> rfl
      | some r => cases ok <;> rfl
  all_goals
   simp only []
   cases h : hp[r]? with
   | none => rfl
   | some o => cases o <;> rfl
 | makeSlice z bytes l c =>
  simp only [Xq, Z4, Q25, Qy]
  cases Q4 tm l <;> try rfl
  rename_i v; cases v <;> try rfl
  simp only []
  cases Q4 tm c <;> try rfl
  rename_i v; cases v <;> try rfl
  simp only [X7, Yo, G2]
  rename_i l _ c
  by_cases h1 : 0 ≤ l <;> by_cases h2 : l ≤ c <;> by_cases h3 : c * bytes ≤ 1099511627776 <;> simp [h1, h2, h3, fin, Vv]
 | sliceStr x lo hi =>
  simp only [Xq, Z4, Q4a, Qy, Q9s, Q5s, X7]
  cases Q4 tm x <;> try rfl
  rename_i v; cases v <;> try rfl
  rename_i s
  simp only []
  cases Q26 0 (lo.map (Q4 tm)) <;> try rfl
  rename_i l
  simp only []
  cases Q26 s.length (hi.map (Q4 tm)) <;> try rfl
  rename_i h
  by_cases h1 : l ≤ h <;> by_cases h2 : h ≤ s.length <;> simp [h1, h2, fin, Qx, Xj]
 | slice esz x lo hi =>
  simp only [Xq, Z4, Qai, Qy, Q9s, Q5s, X7]
  cases Q4 tm x <;> try rfl
  ·rename_i v; cases v <;> try rfl
   rename_i es s
   simp only []
   cases Q26 0 (lo.map (Q4 tm)) <;> try rfl
   rename_i l
   simp only []
   cases Q26 s.length (hi.map (Q4 tm)) <;> try rfl
   rename_i h
   by_cases h0 : es = esz <;> by_cases h1 : l ≤ h <;> by_cases h2 : h ≤ s.length <;> simp [h0, h1, h2, fin, Qx, Xj]
  ·rename_i es a off s
   simp only []
   cases Q26 0 (lo.map (Q4 tm)) <;> try rfl
   rename_i l
   simp only []
   cases Q26 s (hi.map (Q4 tm)) <;> try rfl
   rename_i h
   by_cases h0 : es = esz <;> by_cases h1 : l ≤ h <;> by_cases h2 : h ≤ s <;> simp [h0, h1, h2, fin, Qx, Xj]
 | sliceArr n esz x lo hi =>
  simp only [Xq, Z4, Q3u, Qy, Q9s, Q5s, X7, Wz]
  cases Q4 tm x <;> try rfl
  rename_i a off
  simp only []
  cases hp[a]? with
  | none => rfl
  | some o =>
   cases o <;> try rfl
   rename_i cs
   simp only []
   cases Q26 0 (lo.map (Q4 tm)) <;> try rfl
   rename_i l
   simp only []
   cases Q26 n (hi.map (Q4 tm)) <;> try rfl
   rename_i h
   by_cases h0 : off + n * esz ≤ cs.length <;> by_cases h1 : l ≤ h <;> by_cases h2 : h ≤ n <;> simp [h0, h1, h2, fin, Qx, Xj]
 | fieldAddr x off => simp only [Xq, Z4, Q20, Qy, Xo]; cases Q4 tm x <;> rfl
 | field x off n agg =>
  simp only [Xq, Z4, Qbb, Qy, Qf6]
  cases (Q4 tm x).aggs? <;> try rfl
  simp only [Xo, Wd, Vx, Wf]
  rename_i cs
  cases Wj n (cs.drop off) with
  | none => rfl
  | some cs => simp only []; cases sOf agg cs <;> rfl
 | indexAddr esz x i =>
  simp only [Xq, Z4, Q2e, Qy, X7, Qfp]
  cases Q4 tm x <;> try rfl
  ·rename_i v; cases v <;> try rfl
   simp only []
   cases Q4 tm i <;> try rfl
   rename_i v; cases v <;> try rfl
   rename_i es rows _ n
   by_cases h0 : es = esz <;> cases hi : idx rows n <;> simp [h0, hi, fin, Qx, Xj]
  ·simp only []
   cases Q4 tm i <;> try rfl
   rename_i v; cases v <;> try rfl
   rename_i es a off len _ n
   by_cases h1 : 0 ≤ n <;> by_cases h2 : n < len <;> simp [h1, h2, fin, Qx, Xj]
 | indexArr len esz x i =>
  simp only [Xq, Z4, Q2y, Qy, X7]
  cases Q4 tm x <;> try rfl
  all_goals
   simp only []
   cases Q4 tm i <;> try rfl
   rename_i v; cases v <;> try rfl
   rename_i n
   by_cases h1 : 0 ≤ n <;> by_cases h2 : n < len <;> simp [h1, h2, fin, Qx, Xj]
 | indexStr x i =>
  simp only [Xq, Z4, Q4l, Qy, Qfp]
  cases Q4 tm x <;> try rfl
  rename_i v; cases v <;> try rfl
  simp only []
  cases Q4 tm i <;> try rfl
  rename_i v; cases v <;> try rfl
  simp only [Wf]
  rename_i s _ n
  cases idx s n <;> rfl
 | extract x i =>
  simp only [Xq, Z4, G8, Qy]
  cases Q4 tm x <;> try rfl
  ·rename_i v; cases v <;> try rfl
   rename_i vs
   simp only [Wf]
   cases vs[i]? <;> rfl
  ·rename_i vs
   simp only [Wf]
   cases vs[i]? <;> rfl
 | lenStr x =>
  simp only [Xq, Z4, Q8a, Qy]
  cases Q4 tm x <;> try rfl
  rename_i v; cases v <;> rfl
 | lenSl x =>
  simp only [Xq, Z4, Qb7, Qy]
  cases Q4 tm x <;> try rfl
  rename_i v; cases v <;> rfl
 | lenMap x =>
  simp only [Xq, Z4, Q7z, Qy, Wz]
  cases Q4 tm x <;> try rfl
  ·rename_i v; cases v <;> rfl
  ·rename_i r
   simp only []
   cases hp[r]? with
   | none => rfl
   | some o => cases o <;> rfl
 | append esz bytes s x => simp only [Xq, Z4]; exact Q23 ..
 | appendT esz bytes s x =>
  simp only [Xq, Z4, Q5f, Qy, Q23, Q9j]
  cases hs : Q4 tm s <;> try rfl
  rename_i es a off len
  simp only [Wz, X7, G6, Q1v]
  cases hp[a]? with
  | none => rfl
  | some o =>
   cases o <;> try rfl
   rename_i cs
   simp only []
   by_cases h0 : off + len * esz ≤ cs.length
   ·have h1 : Nat.ble (off + len * esz) cs.length = true := by simpa using h0
    rw [h1, if_pos h0, if_pos rfl]
    rw [List.length_set]
    cases hq : Q4n (hp.set a (.cells (cs.take (off + len * esz)))) hp.length esz bytes (.slice es a off len) (Q4 tm x) with
    | none => rfl
    | some q =>
     obtain ⟨v, e⟩ := q
     show k v (e.apply (hp.set a (.cells (cs.take (off + len * esz)))) (hp.set a (.cells (cs.take (off + len * esz)))).length) = k v ((e.pre a (.cells (cs.take (off + len * esz)))).apply hp hp.length)
     rw [Q80 (Q9o hq), List.length_set]
   ·have h1 : Nat.ble (off + len * esz) cs.length = false := by rw [← Bool.not_eq_true, Nat.ble_eq]; exact h0
    rw [h1, if_neg h0]; rfl
 | copyB d s =>
  have hc : ∀ new, (match Q4 tm d with
    | .p .nilSlice => k (.p (.int .i64 0)) hp
    | .slice es a off len => Q9b E hp a fun
     | .cells cs => chk E (Nat.beq es 1 && (Nat.ble (off + len) cs.length && Nat.ble 1 len))
      (Q50 len new cs off fun n cs => Qfy hp a (.cells cs) fun hp => k (.p (.int .i64 n)) hp)
     | _ => E.fail
    | _ => E.fail) = fin E hp k (Q9t hp (Q4 tm d) new) := fun new => by
   simp only [Wz, X7, Q50, G6, Q37, Un, Q1v, Q9t]
   cases Q4 tm d <;> try rfl
   ·rename_i v; cases v <;> rfl
   ·rename_i es a off len
    simp only []
    cases hp[a]? with
    | none => rfl
    | some o =>
     cases o <;> try rfl
     rename_i cs
     simp only []
     by_cases h1 : es = 1 <;> by_cases h2 : off + len ≤ cs.length <;> by_cases h3 : 1 ≤ len <;> simp [h1, h2, h3, fin, Q3g] <;> omega
  simp only [Xq, Z4, Qbd, Qy, Qhi]
  cases Qds hp (Q4 tm s) with
  | none => rfl
  | some new => exact hc new
 | max x y =>
  simp only [Xq, Z4, Qh9, Qy, V5]
  cases Q4 tm x <;> try rfl
  rename_i v; cases v <;> try rfl
  simp only []
  cases Q4 tm y <;> try rfl
  rename_i v; cases v <;> try rfl
  simp [fin, Qx, Xj]
 | min x y =>
  simp only [Xq, Z4, Qgv, Qy, V5]
  cases Q4 tm x <;> try rfl
  rename_i v; cases v <;> try rfl
  simp only []
  cases Q4 tm y <;> try rfl
  rename_i v; cases v <;> try rfl
  simp [fin, Qx, Xj]
end
end
end Go.Av
