/- An abstract machine for the modelled code, and what its runs say of real calls. Part of a proof of a given statement: for every input the law returns true and the arguments read as before; no condition beyond the given row. -/
import Derived.Test.YtegedmcbfmfjeaaGreatDoorAvStep
namespace Go.Av
noncomputable section
universe u
section
variable {α : Type u} (E : Env α)
def fin (E : Env α) (hp : List AObj) (k : AV → List AObj → α) : Option (AV × Eff) → α
 | some (v, e) => k v (e.apply hp hp.length)
 | none => E.fail
theorem Qat (hp : List AObj) (k : AV → List AObj → α) : fin E hp k none = E.fail := rfl
theorem Qa4 (hp : List AObj) (k : AV → List AObj → α) (v : AV) (e : Eff) : fin E hp k (some (v, e)) = k v (e.apply hp hp.length) := rfl
theorem Ut {β : Type} (hp : List AObj) (k : AV → List AObj → α) (o : Option β) (f : β → Option (AV × Eff)) : fin E hp k (o.bind f) = (match o with
  | some b => fin E hp k (f b)
  | none => E.fail) := by cases o <;> rfl
theorem Qib {β : Type} (hp : List AObj) (k : AV → List AObj → α) (o : Option β) (f : β → AV × Eff) : fin E hp k (o.map f) = (match o with
  | some b => fin E hp k (some (f b))
  | none => E.fail) := by cases o <;> rfl
theorem Gn (hp : List AObj) (o : AObj) : ({ new := some o } : Eff).apply hp hp.length = hp ++ [o] := by simp [Eff.apply, plc]
theorem Q7x (hp : List AObj) (n : Nat) (a : Nat) (o : AObj) : ({ set := some (a, o) } : Eff).apply hp n = hp.set a o := by simp [Eff.apply]
theorem Qg0 (hp : List AObj) (a : Nat) (o o' : AObj) : ({ set := some (a, o), new := some o' } : Eff).apply hp hp.length = hp.set a o ++ [o'] := by simp [Eff.apply, plc]
theorem Vu (hp : List AObj) (n : Nat) : ({} : Eff).apply hp n = hp := rfl

theorem Qnw (hp : List AObj) (esz bytes : Nat) (s : AV) (new : List AV) (n : Nat) (k : AV → List AObj → α) :
  Qom E hp esz bytes s new n k = fin E hp k (Qb5 hp hp.length esz bytes s new n) := by
 unfold Qom Qb5
 by_cases hn : n = 0
 ·subst hn
  simp only [ifB, if_true]
  cases s with
  | p v => cases v <;> rfl
  | _ => rfl
 ·have : Nat.beq n 0 = false := by cases n <;> first | rfl | simp_all
  simp only [this, ifB, hn, if_false]
  cases s with
  | p v =>
   cases v <;> (try rfl)
   by_cases h3 : (n + 4096) * bytes ≤ 17592186044416 <;> simp [Vi, Q1z, h3, fin, Gn]
  | slice es a off len =>
   simp only [Jj]
   cases h : hp[a]? with
   | none => rfl
   | some o =>
    cases o <;> simp only [Vi, Vv, Jd, Q4q, Q1z, fin] <;> (try rfl)
    by_cases h1 : es = esz <;> rename_i cs <;> by_cases h2 : off + len * esz = cs.length <;> by_cases h3 : (len + n + 4096) * bytes ≤ 17592186044416 <;> simp [h1, h2, h3, Qg0, List.length_set]
  | _ => rfl

theorem Qnm (hp : List AObj) (K : List AV → α) (v : AV) : Qqm E hp K v = (match Qhb hp v with
  | some new => K new
  | none => E.fail) := by
 unfold Qqm Qhb
 cases v <;> try rfl
 ·rename_i p; cases p <;> try rfl
  ·simp [Wm]
  ·rename_i es rows
   simp only [Vi, Wm]
   by_cases h0 : es = 1
   ·simp [h0]
   ·have : Nat.beq es 1 = false := by rw [← Bool.not_eq_true, Nat.beq_eq]; exact h0
    simp [h0, this]
 ·rename_i es b off n
  simp only [Jj, Vv, Vi, Ur]
  cases hp[b]? with
  | none => rfl
  | some o =>
   cases o <;> try rfl
   rename_i cs
   by_cases h0 : es = 1
   ·simp only [h0, if_true, Nat.beq_refl]
    cases J0 n (cs.drop off) <;> rfl
   ·have : Nat.beq es 1 = false := by rw [← Bool.not_eq_true, Nat.beq_eq]; exact h0
    simp [h0, this]
theorem Q5k (tm : List AV) (hp : List AObj) (k : AV → List AObj → α) (esz bytes : Nat) (s x : Opd) : Q28 E tm hp k esz bytes s x = fin E hp k (Q8e hp hp.length esz bytes (Q4 tm s) (Q4 tm x)) := by
 simp only [Q8e, Q28, Z9, Jj, Vi, Qnw, Wm, Vv, Ur]
 cases Q4 tm x <;> try rfl
 ·rename_i v; cases v <;> try rfl
  ·rename_i b
   by_cases h0 : esz = 1
   ·simp [h0]
   ·have : Nat.beq esz 1 = false := by rw [← Bool.not_eq_true, Nat.beq_eq]; exact h0
    simp [h0, this, Qat]
  ·rename_i es rows
   by_cases h0 : es = esz
   ·simp [h0]
   ·have : Nat.beq es esz = false := by rw [← Bool.not_eq_true, Nat.beq_eq]; exact h0
    simp [h0, this, Qat]
 ·rename_i es b off n
  simp only []
  cases hp[b]? with
  | none => rfl
  | some o =>
   cases o <;> try rfl
   rename_i cs
   by_cases h0 : es = esz
   ·simp only [h0, if_true, Ut, Nat.beq_refl]
    cases J0 (n * esz) (cs.drop off) <;> rfl
   ·have : Nat.beq es esz = false := by rw [← Bool.not_eq_true, Nat.beq_eq]; exact h0
    simp [h0, this, Qat]
theorem Q7n (tm : List AV) (hp : List AObj) (k : AV → List AObj → α) (c : COp) (hc : c.isCall = false) :
  U2 E tm hp k c = fin E hp k (Zk E.glob tm hp hp.length c) := by
 cases c with
 | call f args => cases hc
 | callv f args => cases hc
 | move x => simp only [U2, Zk, Q9y, Z9]; rfl
 | pick c a b =>
  simp only [U2, Zk, Qir, Z9, Js]
  cases Q4 tm c <;> try rfl
  rename_i v; cases v <;> try rfl
  rename_i b; cases b <;> rfl
 | alloc z => simp only [U2, Zk, Qfv, Wm, Q1z, Qa4, Gn]
 | box x =>
  simp only [U2, Zk, Qmm, Z9, Q7s, Q1z, Qib, Qa4, Gn]
  cases (Q4 tm x).cells? <;> rfl
 | build z ps =>
  simp only [U2, Zk, Qeh, Wm, Qar, Ut]
  cases Q11 tm (z.map AV.p) ps <;> rfl
 | buildSlice z len esz ps =>
  simp only [U2, Zk, Q3v, Wm, Qar, Q1z, Qib, Qa4, Gn]
  cases Q11 tm ((List.replicate len z).flatten.map AV.p) ps <;> rfl
 | load n agg x =>
  simp only [U2, Zk, Qjp, Z9, Q3d, Ur, Gh, Ut]
  cases Ub E.glob hp (Q4 tm x) with
  | none => rfl
  | some cs =>
   simp only []
   cases J0 n cs with
   | none => rfl
   | some cs => simp only []; cases sOf agg cs <;> rfl
 | store n x y =>
  simp only [U2, Zk, Qed, Z9, Jj, Q7s, Vi, Q08, Q4q]
  cases Q4 tm x <;> try rfl
  rename_i a off
  simp only []
  cases hp[a]? with
  | none => rfl
  | some o =>
   cases o <;> try rfl
   rename_i cs
   simp only []
   cases (Q4 tm y).cells? with
   | none => rfl
   | some v =>
    simp only []
    by_cases h1 : v.length = n <;> by_cases h2 : off + n ≤ cs.length <;> simp [h1, h2, fin, Q7x]
 | nilCheck x =>
  simp only [U2, Zk, Q86, Z9]
  cases Q4 tm x <;> try rfl
  ·rename_i v; cases v <;> try rfl
   rename_i fn a b; cases fn <;> rfl
  ·rename_i fn a b; cases fn <;> rfl
 | ari op x y =>
  simp only [U2, Zk, Qm2, Z9]
  cases Q4 tm x <;> try rfl
  rename_i v
  cases v <;> try rfl
  ·simp only []
   cases Q4 tm y <;> try rfl
   rename_i v
   cases v <;> try rfl
   simp only [Qn7, Vi]
   rename_i i x j y
   cases Q9a op i j
   ·rfl
   ·simp only [if_true, Ut]
    cases Qo2 op i x y <;> rfl
  ·simp only []
   cases Q4 tm y <;> try rfl
   rename_i v
   cases v <;> try rfl
   cases op <;> try rfl
   simp only [Vi]
   rename_i s t
   by_cases h : s.length + t.length ≤ 4611686018427387904 <;> simp [h, fin, Z7, Vu]
 | cmp op x y =>
  simp only [U2, Zk, Qm4, Z9, Ut, E.cmp.2, E.scmp.2]
  cases Q4 tm x <;> try rfl
  rename_i v
  cases v <;> try rfl
  ·simp only []
   cases Q4 tm y <;> try rfl
   rename_i v
   cases v <;> try rfl
   rename_i i x j y
   simp only [Vi, Qpb]
   cases i == j <;> rfl
  ·simp only []
   cases Q4 tm y <;> try rfl
   rename_i v
   cases v <;> rfl
 | eqB neg x y =>
  simp only [U2, Zk, Qmk, Z9]
  cases Q4 tm x <;> try rfl
  rename_i v
  cases v <;> try rfl
  simp only []
  cases Q4 tm y <;> try rfl
  rename_i v
  cases v <;> try rfl
  cases neg <;> rfl
 | eqP neg x y =>
  simp only [U2, Zk, Qmn, Z9]
  cases Q4 tm x <;> try rfl
  ·rename_i v
   cases v <;> try rfl
   simp only []
   cases Q4 tm y <;> try rfl
   rename_i v
   cases v <;> rfl
  ·simp only []
   cases Q4 tm y <;> try rfl
   rename_i v
   cases v <;> rfl
 | eqAgg neg kinds x y =>
  simp only [U2, Zk, Qfl, Z9, Qhy]
  cases (Q4 tm x).aggs? <;> try rfl
  simp only []
  cases (Q4 tm y).aggs? <;> try rfl
  simp only [Qgj, Ut, Js]
  rename_i cs ds
  cases Vm kinds cs ds <;> rfl
 | not x =>
  simp only [U2, Zk, Qmf, Z9]; cases Q4 tm x <;> try rfl
  rename_i v; cases v <;> rfl
 | neg x =>
  simp only [U2, Zk, Qmx, Z9]; cases Q4 tm x <;> try rfl
  rename_i v; cases v <;> rfl
 | conv i x =>
  simp only [U2, Zk, Qhr, Z9]; cases Q4 tm x <;> try rfl
  rename_i v; cases v <;> rfl
 | bytesOf x =>
  simp only [U2, Zk, Q9d, Z9]; cases Q4 tm x <;> try rfl
  rename_i v; cases v <;> try rfl
  simp only [Wm, Q1z, fin, Gn]
 | strOf x =>
  simp only [U2, Zk, Qf4, Z9, Jj]
  cases Q4 tm x <;> try rfl
  ·rename_i v; cases v <;> rfl
  ·rename_i es a off len
   simp only []
   cases hp[a]? with
   | none => rfl
   | some o =>
    cases o <;> try rfl
    simp only [Vv, Ur, Q7b, Ut]
    rename_i cs
    cases J0 len (cs.drop off) with
    | none => rfl
    | some cs => simp only []; cases Qf6 cs <;> rfl
 | makeFunc fn a b => simp only [U2, Zk, Q6o, U8]; rfl
 | makeMap => simp only [U2, Zk, Q96, Q1z, fin, Gn]
 | insert kk m ke v =>
  simp only [U2, Zk, Qc5, Z9, Jj]
  cases Q4 tm m <;> try rfl
  rename_i r
  cases Q4 tm ke
  case p kv =>
   simp only []
   cases h : hp[r]? with
   | none => rfl
   | some o =>
    cases o <;> try rfl
    rename_i es
    simp only [Q50, Vi]
    cases Q1r kk kv with
    | false => rfl
    | true =>
     simp only [if_true, Bool.true_eq_false, if_false]
     cases Q4v kv 0 es with
     | none => rfl
     | some r => cases r <;> simp [Q4q, Jd, fin, Q7x]
  all_goals
   simp only []
   cases h : hp[r]? with
   | none => rfl
   | some o => cases o <;> rfl
 | lookup kk z agg ok m ke =>
  simp only [U2, Zk, Qbk, Z9, Jj]
  cases Q4 tm m <;> try rfl
  rename_i r
  cases Q4 tm ke
  case p kv =>
   simp only []
   cases h : hp[r]? with
   | none => rfl
   | some o =>
    cases o <;> try rfl
    rename_i es
    simp only [Q50, Vi]
    cases Q1r kk kv with
    | false => rfl
    | true =>
     simp only [if_true, Bool.true_eq_false, if_false]
     cases Q4v kv 0 es with
     | none => rfl
     | some r =>
      cases r with
      | none =>
       simp only [Wm, Gh, Ut]
       cases sOf agg (z.map AV.p) <;> cases ok <;> rfl
      | some r => cases ok <;> rfl
  all_goals
   simp only []
   cases h : hp[r]? with
   | none => rfl
   | some o => cases o <;> rfl
 | makeSlice z bytes l c =>
  simp only [U2, Zk, Q5s, Z9]
  cases Q4 tm l <;> try rfl
  rename_i v; cases v <;> try rfl
  simp only []
  cases Q4 tm c <;> try rfl
  rename_i v; cases v <;> try rfl
  simp only [Vi, Wm, Q1z]
  rename_i l _ c
  by_cases h1 : 0 ≤ l <;> by_cases h2 : l ≤ c <;> by_cases h3 : c * bytes ≤ 1099511627776 <;> simp [h1, h2, h3, fin, Gn]
 | sliceStr x lo hi =>
  simp only [U2, Zk, Q7c, Z9, Qe7, Qak, Vi]
  cases Q4 tm x <;> try rfl
  rename_i v; cases v <;> try rfl
  rename_i s
  simp only []
  cases Q5p 0 (lo.map (Q4 tm)) <;> try rfl
  rename_i l
  simp only []
  cases Q5p s.length (hi.map (Q4 tm)) <;> try rfl
  rename_i h
  by_cases h1 : l ≤ h <;> by_cases h2 : h ≤ s.length <;> simp [h1, h2, fin, Z7, Vu]
 | slice esz x lo hi =>
  simp only [U2, Zk, Qen, Z9, Qe7, Qak, Vi]
  cases Q4 tm x <;> try rfl
  ·rename_i v; cases v <;> try rfl
   rename_i es s
   simp only []
   cases Q5p 0 (lo.map (Q4 tm)) <;> try rfl
   rename_i l
   simp only []
   cases Q5p s.length (hi.map (Q4 tm)) <;> try rfl
   rename_i h
   by_cases h0 : es = esz <;> by_cases h1 : l ≤ h <;> by_cases h2 : h ≤ s.length <;> simp [h0, h1, h2, fin, Z7, Vu]
  ·rename_i es a off s
   simp only []
   cases Q5p 0 (lo.map (Q4 tm)) <;> try rfl
   rename_i l
   simp only []
   cases Q5p s (hi.map (Q4 tm)) <;> try rfl
   rename_i h
   by_cases h0 : es = esz <;> by_cases h1 : l ≤ h <;> by_cases h2 : h ≤ s <;> simp [h0, h1, h2, fin, Z7, Vu]
 | sliceArr n esz x lo hi =>
  simp only [U2, Zk, Q6n, Z9, Qe7, Qak, Vi, Jj]
  cases Q4 tm x <;> try rfl
  rename_i a off
  simp only []
  cases hp[a]? with
  | none => rfl
  | some o =>
   cases o <;> try rfl
   rename_i cs
   simp only []
   cases Q5p 0 (lo.map (Q4 tm)) <;> try rfl
   rename_i l
   simp only []
   cases Q5p n (hi.map (Q4 tm)) <;> try rfl
   rename_i h
   by_cases h0 : off + n * esz ≤ cs.length <;> by_cases h1 : l ≤ h <;> by_cases h2 : h ≤ n <;> simp [h0, h1, h2, fin, Z7, Vu]
 | fieldAddr x off => simp only [U2, Zk, Q5h, Z9, Vv]; cases Q4 tm x <;> rfl
 | field x off n agg =>
  simp only [U2, Zk, Qez, Z9, Qhy]
  cases (Q4 tm x).aggs? <;> try rfl
  simp only [Vv, Ur, Gh, Ut]
  rename_i cs
  cases J0 n (cs.drop off) with
  | none => rfl
  | some cs => simp only []; cases sOf agg cs <;> rfl
 | indexAddr esz x i =>
  simp only [U2, Zk, Q5e, Z9, Vi, Ql7]
  cases Q4 tm x <;> try rfl
  ·rename_i v; cases v <;> try rfl
   simp only []
   cases Q4 tm i <;> try rfl
   rename_i v; cases v <;> try rfl
   rename_i es rows _ n
   by_cases h0 : es = esz <;> cases hi : idx rows n <;> simp [h0, hi, fin, Z7, Vu]
  ·simp only []
   cases Q4 tm i <;> try rfl
   rename_i v; cases v <;> try rfl
   rename_i es a off len _ n
   by_cases h1 : 0 ≤ n <;> by_cases h2 : n < len <;> simp [h1, h2, fin, Z7, Vu]
 | indexArr len esz x i =>
  simp only [U2, Zk, Q6y, Z9, Vi]
  cases Q4 tm x <;> try rfl
  all_goals
   simp only []
   cases Q4 tm i <;> try rfl
   rename_i v; cases v <;> try rfl
   rename_i n
   by_cases h1 : 0 ≤ n <;> by_cases h2 : n < len <;> simp [h1, h2, fin, Z7, Vu]
 | indexStr x i =>
  simp only [U2, Zk, Q70, Z9, Ql7]
  cases Q4 tm x <;> try rfl
  rename_i v; cases v <;> try rfl
  simp only []
  cases Q4 tm i <;> try rfl
  rename_i v; cases v <;> try rfl
  simp only [Ut]
  rename_i s _ n
  cases idx s n <;> rfl
 | extract x i =>
  simp only [U2, Zk, Q2h, Z9]
  cases Q4 tm x <;> try rfl
  ·rename_i v; cases v <;> try rfl
   rename_i vs
   simp only [Ut]
   cases vs[i]? <;> rfl
  ·rename_i vs
   simp only [Ut]
   cases vs[i]? <;> rfl
 | lenStr x =>
  simp only [U2, Zk, Qc8, Z9]
  cases Q4 tm x <;> try rfl
  rename_i v; cases v <;> rfl
 | lenSl x =>
  simp only [U2, Zk, Qew, Z9]
  cases Q4 tm x <;> try rfl
  rename_i v; cases v <;> rfl
 | lenMap x =>
  simp only [U2, Zk, Qcc, Z9, Jj]
  cases Q4 tm x <;> try rfl
  ·rename_i v; cases v <;> rfl
  ·rename_i r
   simp only []
   cases hp[r]? with
   | none => rfl
   | some o => cases o <;> rfl
 | append esz bytes s x => simp only [U2, Zk]; exact Q5k ..
 | appendT esz bytes s x =>
  simp only [U2, Zk, Q8v, Z9, Q5k, Qe3]
  cases hs : Q4 tm s <;> try rfl
  rename_i es a off len
  simp only [Jj, Vi, Q2n, Q4q]
  cases hp[a]? with
  | none => rfl
  | some o =>
   cases o <;> try rfl
   rename_i cs
   simp only []
   by_cases h0 : off + len * esz ≤ cs.length
   ·have h1 : Nat.ble (off + len * esz) cs.length = true := by simpa using h0
    rw [h1, if_pos h0, if_pos rfl]
    rw [List.length_set]
    cases hq : Q8e (hp.set a (.cells (cs.take (off + len * esz)))) hp.length esz bytes (.slice es a off len) (Q4 tm x) with
    | none => rfl
    | some q =>
     obtain ⟨v, e⟩ := q
     show k v (e.apply (hp.set a (.cells (cs.take (off + len * esz)))) (hp.set a (.cells (cs.take (off + len * esz)))).length) = k v ((e.pre a (.cells (cs.take (off + len * esz)))).apply hp hp.length)
     rw [Qd5 (Qdx hq), List.length_set]
   ·have h1 : Nat.ble (off + len * esz) cs.length = false := by rw [← Bool.not_eq_true, Nat.ble_eq]; exact h0
    rw [h1, if_neg h0]; rfl
 | copyB d s =>
  have hc : ∀ new, (match Q4 tm d with
    | .p .nilSlice => k (.p (.int .i64 0)) hp
    | .slice es a off len => Qdk E hp a fun
     | .cells cs => chk E (Nat.beq es 1 && (Nat.ble (off + len) cs.length && Nat.ble 1 len))
      (Q7o len new cs off fun n cs => Ql8 hp a (.cells cs) fun hp => k (.p (.int .i64 n)) hp)
     | _ => E.fail
    | _ => E.fail) = fin E hp k (Qdm hp (Q4 tm d) new) := fun new => by
   simp only [Jj, Vi, Q7o, Q2n, Q7k, Q08, Q4q, Qdm]
   cases Q4 tm d <;> try rfl
   ·rename_i v; cases v <;> rfl
   ·rename_i es a off len
    simp only []
    cases hp[a]? with
    | none => rfl
    | some o =>
     cases o <;> try rfl
     rename_i cs
     simp only []
     by_cases h1 : es = 1 <;> by_cases h2 : off + len ≤ cs.length <;> by_cases h3 : 1 ≤ len <;> simp [h1, h2, h3, fin, Q7x] <;> omega
  simp only [U2, Zk, Qfc, Z9, Qnm]
  cases Qhb hp (Q4 tm s) with
  | none => rfl
  | some new => exact hc new
 | max x y =>
  simp only [U2, Zk, Qmv, Z9, Js]
  cases Q4 tm x <;> try rfl
  rename_i v; cases v <;> try rfl
  simp only []
  cases Q4 tm y <;> try rfl
  rename_i v; cases v <;> try rfl
  simp [fin, Z7, Vu]
 | min x y =>
  simp only [U2, Zk, Qm7, Z9, Js]
  cases Q4 tm x <;> try rfl
  rename_i v; cases v <;> try rfl
  simp only []
  cases Q4 tm y <;> try rfl
  rename_i v; cases v <;> try rfl
  simp [fin, Z7, Vu]
end
end
end Go.Av
