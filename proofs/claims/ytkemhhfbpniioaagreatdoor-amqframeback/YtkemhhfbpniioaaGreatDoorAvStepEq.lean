/- An abstract machine for the modelled code, and what its runs say of real calls. Part of a proof of a given statement: for every input the law returns true and the arguments read as before; no condition beyond the given row. -/
import Derived.Test.YtkemhhfbpniioaaGreatDoorAvStep
namespace Go.Av
noncomputable section
universe u
section
variable {α : Type u} (E : Env α)
def fin (E : Env α) (hp : List AObj) (k : AV → List AObj → α) : Option (AV × Eff) → α
 | some (v, e) => k v (e.apply hp hp.length)
 | none => E.fail
theorem Qa2 (hp : List AObj) (k : AV → List AObj → α) : fin E hp k none = E.fail := rfl
theorem Qa7 (hp : List AObj) (k : AV → List AObj → α) (v : AV) (e : Eff) : fin E hp k (some (v, e)) = k v (e.apply hp hp.length) := rfl
theorem Ug {β : Type} (hp : List AObj) (k : AV → List AObj → α) (o : Option β) (f : β → Option (AV × Eff)) : fin E hp k (o.bind f) = (match o with
  | some b => fin E hp k (f b)
  | none => E.fail) := by cases o <;> rfl
theorem Qia {β : Type} (hp : List AObj) (k : AV → List AObj → α) (o : Option β) (f : β → AV × Eff) : fin E hp k (o.map f) = (match o with
  | some b => fin E hp k (some (f b))
  | none => E.fail) := by cases o <;> rfl
theorem Gi (hp : List AObj) (o : AObj) : ({ new := some o } : Eff).apply hp hp.length = hp ++ [o] := by simp [Eff.apply, plc]
theorem Q7k (hp : List AObj) (n : Nat) (a : Nat) (o : AObj) : ({ set := some (a, o) } : Eff).apply hp n = hp.set a o := by simp [Eff.apply]
theorem Qhe (hp : List AObj) (a : Nat) (o o' : AObj) : ({ set := some (a, o), new := some o' } : Eff).apply hp hp.length = hp.set a o ++ [o'] := by simp [Eff.apply, plc]
theorem Vg (hp : List AObj) (n : Nat) : ({} : Eff).apply hp n = hp := rfl

theorem Qqc (hp : List AObj) (esz bytes : Nat) (s : AV) (new : List AV) (n : Nat) (k : AV → List AObj → α) :
  Qqh E hp esz bytes s new n k = fin E hp k (Qbq hp hp.length esz bytes s new n) := by
 unfold Qqh Qbq
 by_cases hn : n = 0
 ·subst hn
  simp only [ifB, if_true]
  cases s with
  | p v => cases v <;> rfl
  | _ => rfl
 ·have : Nat.beq n 0 = false := by cases n <;> first | rfl | simp_all
  simp only [this, ifB, hn, if_false]
  cases s with
  | p v =>
   cases v <;> (try rfl)
   by_cases h3 : (n + 4096) * bytes ≤ 17592186044416 <;> simp [V1, Q23, h3, fin, Gi]
  | slice es a off len =>
   simp only [Ja]
   cases h : hp[a]? with
   | none => rfl
   | some o =>
    cases o <;> simp only [V1, Ue, J3, Q5c, Q23, fin] <;> (try rfl)
    by_cases h1 : es = esz <;> rename_i cs <;> by_cases h2 : off + len * esz = cs.length <;> by_cases h3 : (len + n + 4096) * bytes ≤ 17592186044416 <;> simp [h1, h2, h3, Qhe, List.length_set]
  | _ => rfl

theorem Qqa (hp : List AObj) (K : List AV → α) (v : AV) : Qsd E hp K v = (match Qjl hp v with
  | some new => K new
  | none => E.fail) := by
 unfold Qsd Qjl
 cases v <;> try rfl
 ·rename_i p; cases p <;> try rfl
  ·simp [Xw]
  ·rename_i es rows
   simp only [V1, Xw]
   by_cases h0 : es = 1
   ·simp [h0]
   ·have : Nat.beq es 1 = false := by rw [← Bool.not_eq_true, Nat.beq_eq]; exact h0
    simp [h0, this]
 ·rename_i es b off n
  simp only [Ja, Ue, V1, Jv]
  cases hp[b]? with
  | none => rfl
  | some o =>
   cases o <;> try rfl
   rename_i cs
   by_cases h0 : es = 1
   ·simp only [h0, if_true, Nat.beq_refl]
    cases Jl n (cs.drop off) <;> rfl
   ·have : Nat.beq es 1 = false := by rw [← Bool.not_eq_true, Nat.beq_eq]; exact h0
    simp [h0, this]
theorem Q5z (tm : List AV) (hp : List AObj) (k : AV → List AObj → α) (esz bytes : Nat) (s x : Opd) : Q1r E tm hp k esz bytes s x = fin E hp k (Q8r hp hp.length esz bytes (Q5 tm s) (Q5 tm x)) := by
 simp only [Q8r, Q1r, Z4, Ja, V1, Qqc, Xw, Ue, Jv]
 cases Q5 tm x <;> try rfl
 ·rename_i v; cases v <;> try rfl
  ·rename_i b
   by_cases h0 : esz = 1
   ·simp [h0]
   ·have : Nat.beq esz 1 = false := by rw [← Bool.not_eq_true, Nat.beq_eq]; exact h0
    simp [h0, this, Qa2]
  ·rename_i es rows
   by_cases h0 : es = esz
   ·simp [h0]
   ·have : Nat.beq es esz = false := by rw [← Bool.not_eq_true, Nat.beq_eq]; exact h0
    simp [h0, this, Qa2]
 ·rename_i es b off n
  simp only []
  cases hp[b]? with
  | none => rfl
  | some o =>
   cases o <;> try rfl
   rename_i cs
   by_cases h0 : es = esz
   ·simp only [h0, if_true, Ug, Nat.beq_refl]
    cases Jl (n * esz) (cs.drop off) <;> rfl
   ·have : Nat.beq es esz = false := by rw [← Bool.not_eq_true, Nat.beq_eq]; exact h0
    simp [h0, this, Qa2]
theorem Q77 (tm : List AV) (hp : List AObj) (k : AV → List AObj → α) (c : COp) (hc : c.isCall = false) :
  U7 E tm hp k c = fin E hp k (Z5 E.glob tm hp hp.length c) := by
 cases c with
 | call f args => cases hc
 | callv f args => cases hc
 | move x => simp only [U7, Z5, Qk0, Z4]; rfl
 | pick c a b =>
  simp only [U7, Z5, Qla, Z4, Jp]
  cases Q5 tm c <;> try rfl
  rename_i v; cases v <;> try rfl
  rename_i b; cases b <;> rfl
 | alloc z => simp only [U7, Z5, Qfh, Xw, Q23, Qa7, Gi]
 | box x =>
  simp only [U7, Z5, Qof, Z4, Q87, Q23, Qia, Qa7, Gi]
  cases (Q5 tm x).cells? <;> rfl
 | build z ps =>
  simp only [U7, Z5, Qfc, Xw, Qas, Ug]
  cases Q0o tm (z.map AV.p) ps <;> rfl
 | buildSlice z len esz ps =>
  simp only [U7, Z5, Q3v, Xw, Qas, Q23, Qia, Qa7, Gi]
  cases Q0o tm ((List.replicate len z).flatten.map AV.p) ps <;> rfl
 | load n agg x =>
  simp only [U7, Z5, Ql5, Z4, Q3m, Jv, G5, Ug]
  cases U2 E.glob hp (Q5 tm x) with
  | none => rfl
  | some cs =>
   simp only []
   cases Jl n cs with
   | none => rfl
   | some cs => simp only []; cases sOf agg cs <;> rfl
 | store n x y =>
  simp only [U7, Z5, Qfu, Z4, Ja, Q87, V1, Q0d, Q5c]
  cases Q5 tm x <;> try rfl
  rename_i a off
  simp only []
  cases hp[a]? with
  | none => rfl
  | some o =>
   cases o <;> try rfl
   rename_i cs
   simp only []
   cases (Q5 tm y).cells? with
   | none => rfl
   | some v =>
    simp only []
    by_cases h1 : v.length = n <;> by_cases h2 : off + n ≤ cs.length <;> simp [h1, h2, fin, Q7k]
 | nilCheck x =>
  simp only [U7, Z5, Q8g, Z4]
  cases Q5 tm x <;> try rfl
  ·rename_i v; cases v <;> try rfl
   rename_i fn a b; cases fn <;> rfl
  ·rename_i fn a b; cases fn <;> rfl
 | ari op x y =>
  simp only [U7, Z5, Qnv, Z4]
  cases Q5 tm x <;> try rfl
  rename_i v
  cases v <;> try rfl
  ·simp only []
   cases Q5 tm y <;> try rfl
   rename_i v
   cases v <;> try rfl
   simp only [Qpo, V1]
   rename_i i x j y
   cases Q95 op i j
   ·rfl
   ·simp only [if_true, Ug]
    cases Qq1 op i x y <;> rfl
  ·simp only []
   cases Q5 tm y <;> try rfl
   rename_i v
   cases v <;> try rfl
   cases op <;> try rfl
   simp only [V1]
   rename_i s t
   by_cases h : s.length + t.length ≤ 4611686018427387904 <;> simp [h, fin, Qy, Vg]
 | cmp op x y =>
  simp only [U7, Z5, Qns, Z4, Ug]
  cases Q5 tm x <;> try rfl
  rename_i v
  cases v <;> try rfl
  ·simp only []
   cases Q5 tm y <;> try rfl
   rename_i v
   cases v <;> try rfl
   rename_i i x j y
   simp only [V1, Qqo]
   cases i == j <;> rfl
  ·simp only []
   cases Q5 tm y <;> try rfl
   rename_i v
   cases v <;> rfl
 | eqB neg x y =>
  simp only [U7, Z5, Qog, Z4]
  cases Q5 tm x <;> try rfl
  rename_i v
  cases v <;> try rfl
  simp only []
  cases Q5 tm y <;> try rfl
  rename_i v
  cases v <;> try rfl
  cases neg <;> rfl
 | eqP neg x y =>
  simp only [U7, Z5, Qo3, Z4]
  cases Q5 tm x <;> try rfl
  ·rename_i v
   cases v <;> try rfl
   simp only []
   cases Q5 tm y <;> try rfl
   rename_i v
   cases v <;> rfl
  ·simp only []
   cases Q5 tm y <;> try rfl
   rename_i v
   cases v <;> rfl
 | eqAgg neg kinds x y =>
  simp only [U7, Z5, Qg2, Z4, Qki]
  cases (Q5 tm x).aggs? <;> try rfl
  simp only []
  cases (Q5 tm y).aggs? <;> try rfl
  simp only [Qhh, Ug, Jp]
  rename_i cs ds
  cases V6 kinds cs ds <;> rfl
 | not x =>
  simp only [U7, Z5, Qnz, Z4]; cases Q5 tm x <;> try rfl
  rename_i v; cases v <;> rfl
 | neg x =>
  simp only [U7, Z5, Qod, Z4]; cases Q5 tm x <;> try rfl
  rename_i v; cases v <;> rfl
 | conv i x =>
  simp only [U7, Z5, Qip, Z4]; cases Q5 tm x <;> try rfl
  rename_i v; cases v <;> rfl
 | bytesOf x =>
  simp only [U7, Z5, Q9y, Z4]; cases Q5 tm x <;> try rfl
  rename_i v; cases v <;> try rfl
  simp only [Xw, Q23, fin, Gi]
 | strOf x =>
  simp only [U7, Z5, Qfg, Z4, Ja]
  cases Q5 tm x <;> try rfl
  ·rename_i v; cases v <;> rfl
  ·rename_i es a off len
   simp only []
   cases hp[a]? with
   | none => rfl
   | some o =>
    cases o <;> try rfl
    simp only [Ue, Jv, Q80, Ug]
    rename_i cs
    cases Jl len (cs.drop off) with
    | none => rfl
    | some cs => simp only []; cases Qfz cs <;> rfl
 | makeFunc fn a b => simp only [U7, Z5, Q8c, Vz]; rfl
 | makeMap => simp only [U7, Z5, Q9e, Q23, fin, Gi]
 | insert kk m ke v =>
  simp only [U7, Z5, Qcn, Z4, Ja]
  cases Q5 tm m <;> try rfl
  rename_i r
  cases Q5 tm ke
  case p kv =>
   simp only []
   cases h : hp[r]? with
   | none => rfl
   | some o =>
    cases o <;> try rfl
    rename_i es
    simp only [Q5u, V1]
    cases Q1g kk kv with
    | false => rfl
    | true =>
     simp only [if_true, Bool.true_eq_false, if_false]
     cases Q5v kv 0 es with
     | none => rfl
     | some r => cases r <;> simp [Q5c, J3, fin, Q7k]
  all_goals
   simp only []
   cases h : hp[r]? with
   | none => rfl
   | some o => cases o <;> rfl
 | lookup kk z agg ok m ke =>
  simp only [U7, Z5, Qcf, Z4, Ja]
  cases Q5 tm m <;> try rfl
  rename_i r
  cases Q5 tm ke
  case p kv =>
   simp only []
   cases h : hp[r]? with
   | none => rfl
   | some o =>
    cases o <;> try rfl
    rename_i es
    simp only [Q5u, V1]
    cases Q1g kk kv with
    | false => rfl
    | true =>
     simp only [if_true, Bool.true_eq_false, if_false]
     cases Q5v kv 0 es with
     | none => rfl
     | some r =>
      cases r with
      | none =>
       simp only [Xw, G5, Ug]
       cases sOf agg (z.map AV.p) <;> cases ok <;> rfl
      | some r => cases ok <;> rfl
  all_goals
   simp only []
   cases h : hp[r]? with
   | none => rfl
   | some o => cases o <;> rfl
 | makeSlice z bytes l c =>
  simp only [U7, Z5, Q6a, Z4]
  cases Q5 tm l <;> try rfl
  rename_i v; cases v <;> try rfl
  simp only []
  cases Q5 tm c <;> try rfl
  rename_i v; cases v <;> try rfl
  simp only [V1, Xw, Q23]
  rename_i l _ c
  by_cases h1 : 0 ≤ l <;> by_cases h2 : l ≤ c <;> by_cases h3 : c * bytes ≤ 1099511627776 <;> simp [h1, h2, h3, fin, Gi]
 | sliceStr x lo hi =>
  simp only [U7, Z5, Q8k, Z4, Qf1, Qb3, V1]
  cases Q5 tm x <;> try rfl
  rename_i v; cases v <;> try rfl
  rename_i s
  simp only []
  cases Q67 0 (lo.map (Q5 tm)) <;> try rfl
  rename_i l
  simp only []
  cases Q67 s.length (hi.map (Q5 tm)) <;> try rfl
  rename_i h
  by_cases h1 : l ≤ h <;> by_cases h2 : h ≤ s.length <;> simp [h1, h2, fin, Qy, Vg]
 | slice esz x lo hi =>
  simp only [U7, Z5, Qgh, Z4, Qf1, Qb3, V1]
  cases Q5 tm x <;> try rfl
  ·rename_i v; cases v <;> try rfl
   rename_i es s
   simp only []
   cases Q67 0 (lo.map (Q5 tm)) <;> try rfl
   rename_i l
   simp only []
   cases Q67 s.length (hi.map (Q5 tm)) <;> try rfl
   rename_i h
   by_cases h0 : es = esz <;> by_cases h1 : l ≤ h <;> by_cases h2 : h ≤ s.length <;> simp [h0, h1, h2, fin, Qy, Vg]
  ·rename_i es a off s
   simp only []
   cases Q67 0 (lo.map (Q5 tm)) <;> try rfl
   rename_i l
   simp only []
   cases Q67 s (hi.map (Q5 tm)) <;> try rfl
   rename_i h
   by_cases h0 : es = esz <;> by_cases h1 : l ≤ h <;> by_cases h2 : h ≤ s <;> simp [h0, h1, h2, fin, Qy, Vg]
 | sliceArr n esz x lo hi =>
  simp only [U7, Z5, Q82, Z4, Qf1, Qb3, V1, Ja]
  cases Q5 tm x <;> try rfl
  rename_i a off
  simp only []
  cases hp[a]? with
  | none => rfl
  | some o =>
   cases o <;> try rfl
   rename_i cs
   simp only []
   cases Q67 0 (lo.map (Q5 tm)) <;> try rfl
   rename_i l
   simp only []
   cases Q67 n (hi.map (Q5 tm)) <;> try rfl
   rename_i h
   by_cases h0 : off + n * esz ≤ cs.length <;> by_cases h1 : l ≤ h <;> by_cases h2 : h ≤ n <;> simp [h0, h1, h2, fin, Qy, Vg]
 | fieldAddr x off => simp only [U7, Z5, Q60, Z4, Ue]; cases Q5 tm x <;> rfl
 | field x off n agg =>
  simp only [U7, Z5, Qgs, Z4, Qki]
  cases (Q5 tm x).aggs? <;> try rfl
  simp only [Ue, Jv, G5, Ug]
  rename_i cs
  cases Jl n (cs.drop off) with
  | none => rfl
  | some cs => simp only []; cases sOf agg cs <;> rfl
 | indexAddr esz x i =>
  simp only [U7, Z5, Q69, Z4, V1, Qll]
  cases Q5 tm x <;> try rfl
  ·rename_i v; cases v <;> try rfl
   simp only []
   cases Q5 tm i <;> try rfl
   rename_i v; cases v <;> try rfl
   rename_i es rows _ n
   by_cases h0 : es = esz <;> cases hi : idx rows n <;> simp [h0, hi, fin, Qy, Vg]
  ·simp only []
   cases Q5 tm i <;> try rfl
   rename_i v; cases v <;> try rfl
   rename_i es a off len _ n
   by_cases h1 : 0 ≤ n <;> by_cases h2 : n < len <;> simp [h1, h2, fin, Qy, Vg]
 | indexArr len esz x i =>
  simp only [U7, Z5, Q89, Z4, V1]
  cases Q5 tm x <;> try rfl
  all_goals
   simp only []
   cases Q5 tm i <;> try rfl
   rename_i v; cases v <;> try rfl
   rename_i n
   by_cases h1 : 0 ≤ n <;> by_cases h2 : n < len <;> simp [h1, h2, fin, Qy, Vg]
 | indexStr x i =>
  simp only [U7, Z5, Q8j, Z4, Qll]
  cases Q5 tm x <;> try rfl
  rename_i v; cases v <;> try rfl
  simp only []
  cases Q5 tm i <;> try rfl
  rename_i v; cases v <;> try rfl
  simp only [Ug]
  rename_i s _ n
  cases idx s n <;> rfl
 | extract x i =>
  simp only [U7, Z5, Q9o, Z4]
  cases Q5 tm x <;> try rfl
  ·rename_i v; cases v <;> try rfl
   rename_i vs
   simp only [Ug]
   cases vs[i]? <;> rfl
  ·rename_i vs
   simp only [Ug]
   cases vs[i]? <;> rfl
 | lenStr x =>
  simp only [U7, Z5, Qc4, Z4]
  cases Q5 tm x <;> try rfl
  rename_i v; cases v <;> rfl
 | lenSl x =>
  simp only [U7, Z5, Qgf, Z4]
  cases Q5 tm x <;> try rfl
  rename_i v; cases v <;> rfl
 | lenMap x =>
  simp only [U7, Z5, Qd5, Z4, Ja]
  cases Q5 tm x <;> try rfl
  ·rename_i v; cases v <;> rfl
  ·rename_i r
   simp only []
   cases hp[r]? with
   | none => rfl
   | some o => cases o <;> rfl
 | append esz bytes s x => simp only [U7, Z5]; exact Q5z ..
 | appendT esz bytes s x =>
  simp only [U7, Z5, Q9a, Z4, Q5z, Qei]
  cases hs : Q5 tm s <;> try rfl
  rename_i es a off len
  simp only [Ja, V1, Q2p, Q5c]
  cases hp[a]? with
  | none => rfl
  | some o =>
   cases o <;> try rfl
   rename_i cs
   simp only []
   by_cases h0 : off + len * esz ≤ cs.length
   ·have h1 : Nat.ble (off + len * esz) cs.length = true := by simpa using h0
    rw [h1, if_pos h0, if_pos rfl]
    rw [List.length_set]
    cases hq : Q8r (hp.set a (.cells (cs.take (off + len * esz)))) hp.length esz bytes (.slice es a off len) (Q5 tm x) with
    | none => rfl
    | some q =>
     obtain ⟨v, e⟩ := q
     show k v (e.apply (hp.set a (.cells (cs.take (off + len * esz)))) (hp.set a (.cells (cs.take (off + len * esz)))).length) = k v ((e.pre a (.cells (cs.take (off + len * esz)))).apply hp hp.length)
     rw [Qct (Qer hq), List.length_set]
   ·have h1 : Nat.ble (off + len * esz) cs.length = false := by rw [← Bool.not_eq_true, Nat.ble_eq]; exact h0
    rw [h1, if_neg h0]; rfl
 | copyB d s =>
  have hc : ∀ new, (match Q5 tm d with
    | .p .nilSlice => k (.p (.int .i64 0)) hp
    | .slice es a off len => Qdz E hp a fun
     | .cells cs => chk E (Nat.beq es 1 && (Nat.ble (off + len) cs.length && Nat.ble 1 len))
      (Q6k len new cs off fun n cs => Qmz hp a (.cells cs) fun hp => k (.p (.int .i64 n)) hp)
     | _ => E.fail
    | _ => E.fail) = fin E hp k (Qex hp (Q5 tm d) new) := fun new => by
   simp only [Ja, V1, Q6k, Q2p, Q70, Q0d, Q5c, Qex]
   cases Q5 tm d <;> try rfl
   ·rename_i v; cases v <;> rfl
   ·rename_i es a off len
    simp only []
    cases hp[a]? with
    | none => rfl
    | some o =>
     cases o <;> try rfl
     rename_i cs
     simp only []
     by_cases h1 : es = 1 <;> by_cases h2 : off + len ≤ cs.length <;> by_cases h3 : 1 ≤ len <;> simp [h1, h2, h3, fin, Q7k] <;> omega
  simp only [U7, Z5, Qga, Z4, Qqa]
  cases Qjl hp (Q5 tm s) with
  | none => rfl
  | some new => exact hc new
 | max x y =>
  simp only [U7, Z5, Qnx, Z4, Jp]
  cases Q5 tm x <;> try rfl
  rename_i v; cases v <;> try rfl
  simp only []
  cases Q5 tm y <;> try rfl
  rename_i v; cases v <;> try rfl
  simp [fin, Qy, Vg]
 | min x y =>
  simp only [U7, Z5, Qo0, Z4, Jp]
  cases Q5 tm x <;> try rfl
  rename_i v; cases v <;> try rfl
  simp only []
  cases Q5 tm y <;> try rfl
  rename_i v; cases v <;> try rfl
  simp [fin, Qy, Vg]
end
end
end Go.Av
