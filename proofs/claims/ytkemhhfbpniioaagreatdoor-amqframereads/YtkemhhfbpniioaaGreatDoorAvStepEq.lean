/- An abstract machine for the modelled code, and what its runs say of real calls. Part of a proof of a given statement: for every input the law returns true and the arguments read as before; no condition beyond the given row. -/
import Derived.Test.YtkemhhfbpniioaaGreatDoorAvStep
namespace Go.Av
noncomputable section
universe u
section
variable {α : Type u} (E : Env α)
def fin (E : Env α) (hp : List AObj) (k : AV → List AObj → α) : Option (AV × Eff) → α
 | some (v, e) => k v (e.apply hp hp.length)
 | none => E.fail
theorem Qcc (hp : List AObj) (k : AV → List AObj → α) : fin E hp k none = E.fail := rfl
theorem Qc6 (hp : List AObj) (k : AV → List AObj → α) (v : AV) (e : Eff) : fin E hp k (some (v, e)) = k v (e.apply hp hp.length) := rfl
theorem Uz {β : Type} (hp : List AObj) (k : AV → List AObj → α) (o : Option β) (f : β → Option (AV × Eff)) : fin E hp k (o.bind f) = (match o with
  | some b => fin E hp k (f b)
  | none => E.fail) := by cases o <;> rfl
theorem Qmt {β : Type} (hp : List AObj) (k : AV → List AObj → α) (o : Option β) (f : β → AV × Eff) : fin E hp k (o.map f) = (match o with
  | some b => fin E hp k (some (f b))
  | none => E.fail) := by cases o <;> rfl
theorem Q0a (hp : List AObj) (o : AObj) : ({ new := some o } : Eff).apply hp hp.length = hp ++ [o] := by simp [Eff.apply, plc]
theorem Q8n (hp : List AObj) (n : Nat) (a : Nat) (o : AObj) : ({ set := some (a, o) } : Eff).apply hp n = hp.set a o := by simp [Eff.apply]
theorem Qim (hp : List AObj) (a : Nat) (o o' : AObj) : ({ set := some (a, o), new := some o' } : Eff).apply hp hp.length = hp.set a o ++ [o'] := by simp [Eff.apply, plc]
theorem U1 (hp : List AObj) (n : Nat) : ({} : Eff).apply hp n = hp := rfl

theorem Qry (hp : List AObj) (esz bytes : Nat) (s : AV) (new : List AV) (n : Nat) (k : AV → List AObj → α) :
  Qs5 E hp esz bytes s new n k = fin E hp k (Qd6 hp hp.length esz bytes s new n) := by
 unfold Qs5 Qd6
 by_cases hn : n = 0
 ·subst hn
  simp only [ifB, if_true]
  cases s with
  | p v => cases v <;> rfl
  | _ => rfl
 ·have : Nat.beq n 0 = false := by cases n <;> first | rfl | simp_all
  simp only [this, ifB, hn, if_false]
  cases s with
  | p v =>
   cases v <;> (try rfl)
   by_cases h3 : (n + 4096) * bytes ≤ 17592186044416 <;> simp [Vm, Q2w, h3, fin, Q0a]
  | slice es a off len =>
   simp only [Jr]
   cases h : hp[a]? with
   | none => rfl
   | some o =>
    cases o <;> simp only [Vm, Uy, Jk, Q6d, Q2w, fin] <;> (try rfl)
    by_cases h1 : es = esz <;> rename_i cs <;> by_cases h2 : off + len * esz = cs.length <;> by_cases h3 : (len + n + 4096) * bytes ≤ 17592186044416 <;> simp [h1, h2, h3, Qim, List.length_set]
  | _ => rfl

theorem Qqd (hp : List AObj) (K : List AV → α) (v : AV) : Qtw E hp K v = (match Qli hp v with
  | some new => K new
  | none => E.fail) := by
 unfold Qtw Qli
 cases v <;> try rfl
 ·rename_i p; cases p <;> try rfl
  ·simp [Wd]
  ·rename_i es rows
   simp only [Vm, Wd]
   by_cases h0 : es = 1
   ·simp [h0]
   ·have : Nat.beq es 1 = false := by rw [← Bool.not_eq_true, Nat.beq_eq]; exact h0
    simp [h0, this]
 ·rename_i es b off n
  simp only [Jr, Uy, Vm, Gi]
  cases hp[b]? with
  | none => rfl
  | some o =>
   cases o <;> try rfl
   rename_i cs
   by_cases h0 : es = 1
   ·simp only [h0, if_true, Nat.beq_refl]
    cases G7 n (cs.drop off) <;> rfl
   ·have : Nat.beq es 1 = false := by rw [← Bool.not_eq_true, Nat.beq_eq]; exact h0
    simp [h0, this]
theorem Q7h (tm : List AV) (hp : List AObj) (k : AV → List AObj → α) (esz bytes : Nat) (s x : Opd) : Q2u E tm hp k esz bytes s x = fin E hp k (Q9x hp hp.length esz bytes (Q5 tm s) (Q5 tm x)) := by
 simp only [Q9x, Q2u, Z6, Jr, Vm, Qry, Wd, Uy, Gi]
 cases Q5 tm x <;> try rfl
 ·rename_i v; cases v <;> try rfl
  ·rename_i b
   by_cases h0 : esz = 1
   ·simp [h0]
   ·have : Nat.beq esz 1 = false := by rw [← Bool.not_eq_true, Nat.beq_eq]; exact h0
    simp [h0, this, Qcc]
  ·rename_i es rows
   by_cases h0 : es = esz
   ·simp [h0]
   ·have : Nat.beq es esz = false := by rw [← Bool.not_eq_true, Nat.beq_eq]; exact h0
    simp [h0, this, Qcc]
 ·rename_i es b off n
  simp only []
  cases hp[b]? with
  | none => rfl
  | some o =>
   cases o <;> try rfl
   rename_i cs
   by_cases h0 : es = esz
   ·simp only [h0, if_true, Uz, Nat.beq_refl]
    cases G7 (n * esz) (cs.drop off) <;> rfl
   ·have : Nat.beq es esz = false := by rw [← Bool.not_eq_true, Nat.beq_eq]; exact h0
    simp [h0, this, Qcc]
theorem Q9t (tm : List AV) (hp : List AObj) (k : AV → List AObj → α) (c : COp) (hc : c.isCall = false) :
  Us E tm hp k c = fin E hp k (Z7 E.glob tm hp hp.length c) := by
 cases c with
 | call f args => cases hc
 | callv f args => cases hc
 | move x => simp only [Us, Z7, Qlg, Z6]; rfl
 | pick c a b =>
  simp only [Us, Z7, Qll, Z6, Gd]
  cases Q5 tm c <;> try rfl
  rename_i v; cases v <;> try rfl
  rename_i b; cases b <;> rfl
 | alloc z => simp only [Us, Z7, Qhk, Wd, Q2w, Qc6, Q0a]
 | box x =>
  simp only [Us, Z7, Qpg, Z6, Q9q, Q2w, Qmt, Qc6, Q0a]
  cases (Q5 tm x).cells? <;> rfl
 | build z ps =>
  simp only [Us, Z7, Qhf, Wd, Qch, Uz]
  cases Q1h tm (z.map AV.p) ps <;> rfl
 | buildSlice z len esz ps =>
  simp only [Us, Z7, Q5w, Wd, Qch, Q2w, Qmt, Qc6, Q0a]
  cases Q1h tm ((List.replicate len z).flatten.map AV.p) ps <;> rfl
 | load n agg x =>
  simp only [Us, Z7, Qku, Z6, Q44, Gi, Gr, Uz]
  cases Um E.glob hp (Q5 tm x) with
  | none => rfl
  | some cs =>
   simp only []
   cases G7 n cs with
   | none => rfl
   | some cs => simp only []; cases sOf agg cs <;> rfl
 | store n x y =>
  simp only [Us, Z7, Qgq, Z6, Jr, Q9q, Vm, Q14, Q6d]
  cases Q5 tm x <;> try rfl
  rename_i a off
  simp only []
  cases hp[a]? with
  | none => rfl
  | some o =>
   cases o <;> try rfl
   rename_i cs
   simp only []
   cases (Q5 tm y).cells? with
   | none => rfl
   | some v =>
    simp only []
    by_cases h1 : v.length = n <;> by_cases h2 : off + n ≤ cs.length <;> simp [h1, h2, fin, Q8n]
 | nilCheck x =>
  simp only [Us, Z7, Q9b, Z6]
  cases Q5 tm x <;> try rfl
  ·rename_i v; cases v <;> try rfl
   rename_i fn a b; cases fn <;> rfl
  ·rename_i fn a b; cases fn <;> rfl
 | ari op x y =>
  simp only [Us, Z7, Qq1, Z6]
  cases Q5 tm x <;> try rfl
  rename_i v
  cases v <;> try rfl
  ·simp only []
   cases Q5 tm y <;> try rfl
   rename_i v
   cases v <;> try rfl
   simp only [Qro, Vm]
   rename_i i x j y
   cases Qb9 op i j
   ·rfl
   ·simp only [if_true, Uz]
    cases Qqx op i x y <;> rfl
  ·simp only []
   cases Q5 tm y <;> try rfl
   rename_i v
   cases v <;> try rfl
   cases op <;> try rfl
   simp only [Vm]
   rename_i s t
   by_cases h : s.length + t.length ≤ 4611686018427387904 <;> simp [h, fin, Z1, U1]
 | cmp op x y =>
  simp only [Us, Z7, Qpu, Z6, Uz]
  cases Q5 tm x <;> try rfl
  rename_i v
  cases v <;> try rfl
  ·simp only []
   cases Q5 tm y <;> try rfl
   rename_i v
   cases v <;> try rfl
   rename_i i x j y
   simp only [Vm, Qsq]
   cases i == j <;> rfl
  ·simp only []
   cases Q5 tm y <;> try rfl
   rename_i v
   cases v <;> rfl
 | eqB neg x y =>
  simp only [Us, Z7, Qpj, Z6]
  cases Q5 tm x <;> try rfl
  rename_i v
  cases v <;> try rfl
  simp only []
  cases Q5 tm y <;> try rfl
  rename_i v
  cases v <;> try rfl
  cases neg <;> rfl
 | eqP neg x y =>
  simp only [Us, Z7, Qpf, Z6]
  cases Q5 tm x <;> try rfl
  ·rename_i v
   cases v <;> try rfl
   simp only []
   cases Q5 tm y <;> try rfl
   rename_i v
   cases v <;> rfl
  ·simp only []
   cases Q5 tm y <;> try rfl
   rename_i v
   cases v <;> rfl
 | eqAgg neg kinds x y =>
  simp only [Us, Z7, Qhh, Z6, Qmf]
  cases (Q5 tm x).aggs? <;> try rfl
  simp only []
  cases (Q5 tm y).aggs? <;> try rfl
  simp only [Qiv, Uz, Gd]
  rename_i cs ds
  cases Vu kinds cs ds <;> rfl
 | not x =>
  simp only [Us, Z7, Qpb, Z6]; cases Q5 tm x <;> try rfl
  rename_i v; cases v <;> rfl
 | neg x =>
  simp only [Us, Z7, Qpl, Z6]; cases Q5 tm x <;> try rfl
  rename_i v; cases v <;> rfl
 | conv i x =>
  simp only [Us, Z7, Qmz, Z6]; cases Q5 tm x <;> try rfl
  rename_i v; cases v <;> rfl
 | bytesOf x =>
  simp only [Us, Z7, Qaa, Z6]; cases Q5 tm x <;> try rfl
  rename_i v; cases v <;> try rfl
  simp only [Wd, Q2w, fin, Q0a]
 | strOf x =>
  simp only [Us, Z7, Qhm, Z6, Jr]
  cases Q5 tm x <;> try rfl
  ·rename_i v; cases v <;> rfl
  ·rename_i es a off len
   simp only []
   cases hp[a]? with
   | none => rfl
   | some o =>
    cases o <;> try rfl
    simp only [Uy, Gi, Q8x, Uz]
    rename_i cs
    cases G7 len (cs.drop off) with
    | none => rfl
    | some cs => simp only []; cases Qi6 cs <;> rfl
 | makeFunc fn a b => simp only [Us, Z7, Q8h, Uh]; rfl
 | makeMap => simp only [Us, Z7, Qap, Q2w, fin, Q0a]
 | insert kk m ke v =>
  simp only [Us, Z7, Qed, Z6, Jr]
  cases Q5 tm m <;> try rfl
  rename_i r
  cases Q5 tm ke
  case p kv =>
   simp only []
   cases h : hp[r]? with
   | none => rfl
   | some o =>
    cases o <;> try rfl
    rename_i es
    simp only [Q6g, Vm]
    cases Q2f kk kv with
    | false => rfl
    | true =>
     simp only [if_true, Bool.true_eq_false, if_false]
     cases Q6t kv 0 es with
     | none => rfl
     | some r => cases r <;> simp [Q6d, Jk, fin, Q8n]
  all_goals
   simp only []
   cases h : hp[r]? with
   | none => rfl
   | some o => cases o <;> rfl
 | lookup kk z agg ok m ke =>
  simp only [Us, Z7, Qeo, Z6, Jr]
  cases Q5 tm m <;> try rfl
  rename_i r
  cases Q5 tm ke
  case p kv =>
   simp only []
   cases h : hp[r]? with
   | none => rfl
   | some o =>
    cases o <;> try rfl
    rename_i es
    simp only [Q6g, Vm]
    cases Q2f kk kv with
    | false => rfl
    | true =>
     simp only [if_true, Bool.true_eq_false, if_false]
     cases Q6t kv 0 es with
     | none => rfl
     | some r =>
      cases r with
      | none =>
       simp only [Wd, Gr, Uz]
       cases sOf agg (z.map AV.p) <;> cases ok <;> rfl
      | some r => cases ok <;> rfl
  all_goals
   simp only []
   cases h : hp[r]? with
   | none => rfl
   | some o => cases o <;> rfl
 | makeSlice z bytes l c =>
  simp only [Us, Z7, Q7a, Z6]
  cases Q5 tm l <;> try rfl
  rename_i v; cases v <;> try rfl
  simp only []
  cases Q5 tm c <;> try rfl
  rename_i v; cases v <;> try rfl
  simp only [Vm, Wd, Q2w]
  rename_i l _ c
  by_cases h1 : 0 ≤ l <;> by_cases h2 : l ≤ c <;> by_cases h3 : c * bytes ≤ 1099511627776 <;> simp [h1, h2, h3, fin, Q0a]
 | sliceStr x lo hi =>
  simp only [Us, Z7, Q8d, Z6, Qfv, Qcv, Vm]
  cases Q5 tm x <;> try rfl
  rename_i v; cases v <;> try rfl
  rename_i s
  simp only []
  cases Q74 0 (lo.map (Q5 tm)) <;> try rfl
  rename_i l
  simp only []
  cases Q74 s.length (hi.map (Q5 tm)) <;> try rfl
  rename_i h
  by_cases h1 : l ≤ h <;> by_cases h2 : h ≤ s.length <;> simp [h1, h2, fin, Z1, U1]
 | slice esz x lo hi =>
  simp only [Us, Z7, Qhw, Z6, Qfv, Qcv, Vm]
  cases Q5 tm x <;> try rfl
  ·rename_i v; cases v <;> try rfl
   rename_i es s
   simp only []
   cases Q74 0 (lo.map (Q5 tm)) <;> try rfl
   rename_i l
   simp only []
   cases Q74 s.length (hi.map (Q5 tm)) <;> try rfl
   rename_i h
   by_cases h0 : es = esz <;> by_cases h1 : l ≤ h <;> by_cases h2 : h ≤ s.length <;> simp [h0, h1, h2, fin, Z1, U1]
  ·rename_i es a off s
   simp only []
   cases Q74 0 (lo.map (Q5 tm)) <;> try rfl
   rename_i l
   simp only []
   cases Q74 s (hi.map (Q5 tm)) <;> try rfl
   rename_i h
   by_cases h0 : es = esz <;> by_cases h1 : l ≤ h <;> by_cases h2 : h ≤ s <;> simp [h0, h1, h2, fin, Z1, U1]
 | sliceArr n esz x lo hi =>
  simp only [Us, Z7, Q8l, Z6, Qfv, Qcv, Vm, Jr]
  cases Q5 tm x <;> try rfl
  rename_i a off
  simp only []
  cases hp[a]? with
  | none => rfl
  | some o =>
   cases o <;> try rfl
   rename_i cs
   simp only []
   cases Q74 0 (lo.map (Q5 tm)) <;> try rfl
   rename_i l
   simp only []
   cases Q74 n (hi.map (Q5 tm)) <;> try rfl
   rename_i h
   by_cases h0 : off + n * esz ≤ cs.length <;> by_cases h1 : l ≤ h <;> by_cases h2 : h ≤ n <;> simp [h0, h1, h2, fin, Z1, U1]
 | fieldAddr x off => simp only [Us, Z7, Q7e, Z6, Uy]; cases Q5 tm x <;> rfl
 | field x off n agg =>
  simp only [Us, Z7, Qia, Z6, Qmf]
  cases (Q5 tm x).aggs? <;> try rfl
  simp only [Uy, Gi, Gr, Uz]
  rename_i cs
  cases G7 n (cs.drop off) with
  | none => rfl
  | some cs => simp only []; cases sOf agg cs <;> rfl
 | indexAddr esz x i =>
  simp only [Us, Z7, Q77, Z6, Vm, Qn6]
  cases Q5 tm x <;> try rfl
  ·rename_i v; cases v <;> try rfl
   simp only []
   cases Q5 tm i <;> try rfl
   rename_i v; cases v <;> try rfl
   rename_i es rows _ n
   by_cases h0 : es = esz <;> cases hi : idx rows n <;> simp [h0, hi, fin, Z1, U1]
  ·simp only []
   cases Q5 tm i <;> try rfl
   rename_i v; cases v <;> try rfl
   rename_i es a off len _ n
   by_cases h1 : 0 ≤ n <;> by_cases h2 : n < len <;> simp [h1, h2, fin, Z1, U1]
 | indexArr len esz x i =>
  simp only [Us, Z7, Q9k, Z6, Vm]
  cases Q5 tm x <;> try rfl
  all_goals
   simp only []
   cases Q5 tm i <;> try rfl
   rename_i v; cases v <;> try rfl
   rename_i n
   by_cases h1 : 0 ≤ n <;> by_cases h2 : n < len <;> simp [h1, h2, fin, Z1, U1]
 | indexStr x i =>
  simp only [Us, Z7, Q8a, Z6, Qn6]
  cases Q5 tm x <;> try rfl
  rename_i v; cases v <;> try rfl
  simp only []
  cases Q5 tm i <;> try rfl
  rename_i v; cases v <;> try rfl
  simp only [Uz]
  rename_i s _ n
  cases idx s n <;> rfl
 | extract x i =>
  simp only [Us, Z7, Qar, Z6]
  cases Q5 tm x <;> try rfl
  ·rename_i v; cases v <;> try rfl
   rename_i vs
   simp only [Uz]
   cases vs[i]? <;> rfl
  ·rename_i vs
   simp only [Uz]
   cases vs[i]? <;> rfl
 | lenStr x =>
  simp only [Us, Z7, Qes, Z6]
  cases Q5 tm x <;> try rfl
  rename_i v; cases v <;> rfl
 | lenSl x =>
  simp only [Us, Z7, Qhi, Z6]
  cases Q5 tm x <;> try rfl
  rename_i v; cases v <;> rfl
 | lenMap x =>
  simp only [Us, Z7, Qdw, Z6, Jr]
  cases Q5 tm x <;> try rfl
  ·rename_i v; cases v <;> rfl
  ·rename_i r
   simp only []
   cases hp[r]? with
   | none => rfl
   | some o => cases o <;> rfl
 | append esz bytes s x => simp only [Us, Z7]; exact Q7h ..
 | appendT esz bytes s x =>
  simp only [Us, Z7, Qad, Z6, Q7h, Qg5]
  cases hs : Q5 tm s <;> try rfl
  rename_i es a off len
  simp only [Jr, Vm, Q3o, Q6d]
  cases hp[a]? with
  | none => rfl
  | some o =>
   cases o <;> try rfl
   rename_i cs
   simp only []
   by_cases h0 : off + len * esz ≤ cs.length
   ·have h1 : Nat.ble (off + len * esz) cs.length = true := by simpa using h0
    rw [h1, if_pos h0, if_pos rfl]
    rw [List.length_set]
    cases hq : Q9x (hp.set a (.cells (cs.take (off + len * esz)))) hp.length esz bytes (.slice es a off len) (Q5 tm x) with
    | none => rfl
    | some q =>
     obtain ⟨v, e⟩ := q
     show k v (e.apply (hp.set a (.cells (cs.take (off + len * esz)))) (hp.set a (.cells (cs.take (off + len * esz)))).length) = k v ((e.pre a (.cells (cs.take (off + len * esz)))).apply hp hp.length)
     rw [Qf1 (Qfq hq), List.length_set]
   ·have h1 : Nat.ble (off + len * esz) cs.length = false := by rw [← Bool.not_eq_true, Nat.ble_eq]; exact h0
    rw [h1, if_neg h0]; rfl
 | copyB d s =>
  have hc : ∀ new, (match Q5 tm d with
    | .p .nilSlice => k (.p (.int .i64 0)) hp
    | .slice es a off len => Qg6 E hp a fun
     | .cells cs => chk E (Nat.beq es 1 && (Nat.ble (off + len) cs.length && Nat.ble 1 len))
      (Q7s len new cs off fun n cs => Qo1 hp a (.cells cs) fun hp => k (.p (.int .i64 n)) hp)
     | _ => E.fail
    | _ => E.fail) = fin E hp k (Qgc hp (Q5 tm d) new) := fun new => by
   simp only [Jr, Vm, Q7s, Q3o, Q9a, Q14, Q6d, Qgc]
   cases Q5 tm d <;> try rfl
   ·rename_i v; cases v <;> rfl
   ·rename_i es a off len
    simp only []
    cases hp[a]? with
    | none => rfl
    | some o =>
     cases o <;> try rfl
     rename_i cs
     simp only []
     by_cases h1 : es = 1 <;> by_cases h2 : off + len ≤ cs.length <;> by_cases h3 : 1 ≤ len <;> simp [h1, h2, h3, fin, Q8n] <;> omega
  simp only [Us, Z7, Qhj, Z6, Qqd]
  cases Qli hp (Q5 tm s) with
  | none => rfl
  | some new => exact hc new
 | max x y =>
  simp only [Us, Z7, Qpm, Z6, Gd]
  cases Q5 tm x <;> try rfl
  rename_i v; cases v <;> try rfl
  simp only []
  cases Q5 tm y <;> try rfl
  rename_i v; cases v <;> try rfl
  simp [fin, Z1, U1]
 | min x y =>
  simp only [Us, Z7, Qpw, Z6, Gd]
  cases Q5 tm x <;> try rfl
  rename_i v; cases v <;> try rfl
  simp only []
  cases Q5 tm y <;> try rfl
  rename_i v; cases v <;> try rfl
  simp [fin, Z1, U1]
end
end
end Go.Av
