/- An abstract machine for the modelled code, and what its runs say of real calls. Part of a proof of a given statement: for every input the law returns true and the arguments read as before; no condition beyond the given row. -/
import Derived.Test.YtkemhhfbpniioaaGreatDoorAvStep
namespace Go.Av
noncomputable section
universe u
section
variable {α : Type u} (E : Env α)
def fin (E : Env α) (hp : List AObj) (k : AV → List AObj → α) : Option (AV × Eff) → α
 | some (v, e) => k v (e.apply hp hp.length)
 | none => E.fail
theorem Qf4 (hp : List AObj) (k : AV → List AObj → α) : fin E hp k none = E.fail := rfl
theorem Qe9 (hp : List AObj) (k : AV → List AObj → α) (v : AV) (e : Eff) : fin E hp k (some (v, e)) = k v (e.apply hp hp.length) := rfl
theorem Gv {β : Type} (hp : List AObj) (k : AV → List AObj → α) (o : Option β) (f : β → Option (AV × Eff)) : fin E hp k (o.bind f) = (match o with
  | some b => fin E hp k (f b)
  | none => E.fail) := by cases o <;> rfl
theorem Qn4 {β : Type} (hp : List AObj) (k : AV → List AObj → α) (o : Option β) (f : β → AV × Eff) : fin E hp k (o.map f) = (match o with
  | some b => fin E hp k (some (f b))
  | none => E.fail) := by cases o <;> rfl
theorem Q23 (hp : List AObj) (o : AObj) : ({ new := some o } : Eff).apply hp hp.length = hp ++ [o] := by simp [Eff.apply, plc]
theorem Qcg (hp : List AObj) (n : Nat) (a : Nat) (o : AObj) : ({ set := some (a, o) } : Eff).apply hp n = hp.set a o := by simp [Eff.apply]
theorem Ql8 (hp : List AObj) (a : Nat) (o o' : AObj) : ({ set := some (a, o), new := some o' } : Eff).apply hp hp.length = hp.set a o ++ [o'] := by simp [Eff.apply, plc]
theorem Jx (hp : List AObj) (n : Nat) : ({} : Eff).apply hp n = hp := rfl

theorem Qtz (hp : List AObj) (esz bytes : Nat) (s : AV) (new : List AV) (n : Nat) (k : AV → List AObj → α) :
  Que E hp esz bytes s new n k = fin E hp k (Qff hp hp.length esz bytes s new n) := by
 unfold Que Qff
 by_cases hn : n = 0
 ·subst hn
  simp only [ifB, if_true]
  cases s with
  | p v => cases v <;> rfl
  | _ => rfl
 ·have : Nat.beq n 0 = false := by cases n <;> first | rfl | simp_all
  simp only [this, ifB, hn, if_false]
  cases s with
  | p v =>
   cases v <;> (try rfl)
   by_cases h3 : (n + 4096) * bytes ≤ 17592186044416 <;> simp [Jl, Q5p, h3, fin, Q23]
  | slice es a off len =>
   simp only [Q0x]
   cases h : hp[a]? with
   | none => rfl
   | some o =>
    cases o <;> simp only [Jl, Gu, Q0q, Q94, Q5p, fin] <;> (try rfl)
    by_cases h1 : es = esz <;> rename_i cs <;> by_cases h2 : off + len * esz = cs.length <;> by_cases h3 : (len + n + 4096) * bytes ≤ 17592186044416 <;> simp [h1, h2, h3, Ql8, List.length_set]
  | _ => rfl

theorem Qtp (hp : List AObj) (K : List AV → α) (v : AV) : Qwc E hp K v = (match Qmg hp v with
  | some new => K new
  | none => E.fail) := by
 unfold Qwc Qmg
 cases v <;> try rfl
 ·rename_i p; cases p <;> try rfl
  ·simp [Ug]
  ·rename_i es rows
   simp only [Jl, Ug]
   by_cases h0 : es = 1
   ·simp [h0]
   ·have : Nat.beq es 1 = false := by rw [← Bool.not_eq_true, Nat.beq_eq]; exact h0
    simp [h0, this]
 ·rename_i es b off n
  simp only [Q0x, Gu, Jl, Q1n]
  cases hp[b]? with
  | none => rfl
  | some o =>
   cases o <;> try rfl
   rename_i cs
   by_cases h0 : es = 1
   ·simp only [h0, if_true, Nat.beq_refl]
    cases Q1e n (cs.drop off) <;> rfl
   ·have : Nat.beq es 1 = false := by rw [← Bool.not_eq_true, Nat.beq_eq]; exact h0
    simp [h0, this]
theorem Q9n (tm : List AV) (hp : List AObj) (k : AV → List AObj → α) (esz bytes : Nat) (s x : Opd) : Q5h E tm hp k esz bytes s x = fin E hp k (Qck hp hp.length esz bytes (Q9 tm s) (Q9 tm x)) := by
 simp only [Qck, Q5h, Zh, Q0x, Jl, Qtz, Ug, Gu, Q1n]
 cases Q9 tm x <;> try rfl
 ·rename_i v; cases v <;> try rfl
  ·rename_i b
   by_cases h0 : esz = 1
   ·simp [h0]
   ·have : Nat.beq esz 1 = false := by rw [← Bool.not_eq_true, Nat.beq_eq]; exact h0
    simp [h0, this, Qf4]
  ·rename_i es rows
   by_cases h0 : es = esz
   ·simp [h0]
   ·have : Nat.beq es esz = false := by rw [← Bool.not_eq_true, Nat.beq_eq]; exact h0
    simp [h0, this, Qf4]
 ·rename_i es b off n
  simp only []
  cases hp[b]? with
  | none => rfl
  | some o =>
   cases o <;> try rfl
   rename_i cs
   by_cases h0 : es = esz
   ·simp only [h0, if_true, Gv, Nat.beq_refl]
    cases Q1e (n * esz) (cs.drop off) <;> rfl
   ·have : Nat.beq es esz = false := by rw [← Bool.not_eq_true, Nat.beq_eq]; exact h0
    simp [h0, this, Qf4]
theorem Qb0 (tm : List AV) (hp : List AObj) (k : AV → List AObj → α) (c : COp) (hc : c.isCall = false) :
  Gn E tm hp k c = fin E hp k (Zk E.glob tm hp hp.length c) := by
 cases c with
 | call f args => cases hc
 | callv f args => cases hc
 | move x => simp only [Gn, Zk, Qp1, Zh]; rfl
 | pick c a b =>
  simp only [Gn, Zk, Qmz, Zh, Q1h]
  cases Q9 tm c <;> try rfl
  rename_i v; cases v <;> try rfl
  rename_i b; cases b <;> rfl
 | alloc z => simp only [Gn, Zk, Qjc, Ug, Q5p, Qe9, Q23]
 | box x =>
  simp only [Gn, Zk, Qrz, Zh, Qc0, Q5p, Qn4, Qe9, Q23]
  cases (Q9 tm x).cells? <;> rfl
 | build z ps =>
  simp only [Gn, Zk, Qjl, Ug, Qe1, Gv]
  cases Q4s tm (z.map AV.p) ps <;> rfl
 | buildSlice z len esz ps =>
  simp only [Gn, Zk, Q7q, Ug, Qe1, Q5p, Qn4, Qe9, Q23]
  cases Q4s tm ((List.replicate len z).flatten.map AV.p) ps <;> rfl
 | load n agg x =>
  simp only [Gn, Zk, Qnf, Zh, Q7a, Q1n, Q2d, Gv]
  cases Gj E.glob hp (Q9 tm x) with
  | none => rfl
  | some cs =>
   simp only []
   cases Q1e n cs with
   | none => rfl
   | some cs => simp only []; cases sOf agg cs <;> rfl
 | store n x y =>
  simp only [Gn, Zk, Qjh, Zh, Q0x, Qc0, Jl, Q68, Q94]
  cases Q9 tm x <;> try rfl
  rename_i a off
  simp only []
  cases hp[a]? with
  | none => rfl
  | some o =>
   cases o <;> try rfl
   rename_i cs
   simp only []
   cases (Q9 tm y).cells? with
   | none => rfl
   | some v =>
    simp only []
    by_cases h1 : v.length = n <;> by_cases h2 : off + n ≤ cs.length <;> simp [h1, h2, fin, Qcg]
 | nilCheck x =>
  simp only [Gn, Zk, Qc5, Zh]
  cases Q9 tm x <;> try rfl
  ·rename_i v; cases v <;> try rfl
   rename_i fn a b; cases fn <;> rfl
  ·rename_i fn a b; cases fn <;> rfl
 | ari op x y =>
  simp only [Gn, Zk, Qrv, Zh]
  cases Q9 tm x <;> try rfl
  rename_i v
  cases v <;> try rfl
  ·simp only []
   cases Q9 tm y <;> try rfl
   rename_i v
   cases v <;> try rfl
   simp only [Qua, Jl]
   rename_i i x j y
   cases Qdf op i j
   ·rfl
   ·simp only [if_true, Gv]
    cases Qsx op i x y <;> rfl
  ·simp only []
   cases Q9 tm y <;> try rfl
   rename_i v
   cases v <;> try rfl
   cases op <;> try rfl
   simp only [Jl]
   rename_i s t
   by_cases h : s.length + t.length ≤ 4611686018427387904 <;> simp [h, fin, Z8, Jx]
 | cmp op x y =>
  simp only [Gn, Zk, Qs1, Zh, Gv]
  cases Q9 tm x <;> try rfl
  rename_i v
  cases v <;> try rfl
  ·simp only []
   cases Q9 tm y <;> try rfl
   rename_i v
   cases v <;> try rfl
   rename_i i x j y
   simp only [Jl, Qug]
   cases i == j <;> rfl
  ·simp only []
   cases Q9 tm y <;> try rfl
   rename_i v
   cases v <;> rfl
 | eqB neg x y =>
  simp only [Gn, Zk, Qs0, Zh]
  cases Q9 tm x <;> try rfl
  rename_i v
  cases v <;> try rfl
  simp only []
  cases Q9 tm y <;> try rfl
  rename_i v
  cases v <;> try rfl
  cases neg <;> rfl
 | eqP neg x y =>
  simp only [Gn, Zk, Qs5, Zh]
  cases Q9 tm x <;> try rfl
  ·rename_i v
   cases v <;> try rfl
   simp only []
   cases Q9 tm y <;> try rfl
   rename_i v
   cases v <;> rfl
  ·simp only []
   cases Q9 tm y <;> try rfl
   rename_i v
   cases v <;> rfl
 | eqAgg neg kinds x y =>
  simp only [Gn, Zk, Qjb, Zh, Qo4]
  cases (Q9 tm x).aggs? <;> try rfl
  simp only []
  cases (Q9 tm y).aggs? <;> try rfl
  simp only [Qlr, Gv, Q1h]
  rename_i cs ds
  cases Ju kinds cs ds <;> rfl
 | not x =>
  simp only [Gn, Zk, Qs4, Zh]; cases Q9 tm x <;> try rfl
  rename_i v; cases v <;> rfl
 | neg x =>
  simp only [Gn, Zk, Qsf, Zh]; cases Q9 tm x <;> try rfl
  rename_i v; cases v <;> rfl
 | conv i x =>
  simp only [Gn, Zk, Qol, Zh]; cases Q9 tm x <;> try rfl
  rename_i v; cases v <;> rfl
 | bytesOf x =>
  simp only [Gn, Zk, Qda, Zh]; cases Q9 tm x <;> try rfl
  rename_i v; cases v <;> try rfl
  simp only [Ug, Q5p, fin, Q23]
 | strOf x =>
  simp only [Gn, Zk, Qjx, Zh, Q0x]
  cases Q9 tm x <;> try rfl
  ·rename_i v; cases v <;> rfl
  ·rename_i es a off len
   simp only []
   cases hp[a]? with
   | none => rfl
   | some o =>
    cases o <;> try rfl
    simp only [Gu, Q1n, Qbz, Gv]
    rename_i cs
    cases Q1e len (cs.drop off) with
    | none => rfl
    | some cs => simp only []; cases Qka cs <;> rfl
 | makeFunc fn a b => simp only [Gn, Zk, Qb7, Gh]; rfl
 | makeMap => simp only [Gn, Zk, Qdw, Q5p, fin, Q23]
 | insert kk m ke v =>
  simp only [Gn, Zk, Qh4, Zh, Q0x]
  cases Q9 tm m <;> try rfl
  rename_i r
  cases Q9 tm ke
  case p kv =>
   simp only []
   cases h : hp[r]? with
   | none => rfl
   | some o =>
    cases o <;> try rfl
    rename_i es
    simp only [Q91, Jl]
    cases Q59 kk kv with
    | false => rfl
    | true =>
     simp only [if_true, Bool.true_eq_false, if_false]
     cases Q9d kv 0 es with
     | none => rfl
     | some r => cases r <;> simp [Q94, Q0q, fin, Qcg]
  all_goals
   simp only []
   cases h : hp[r]? with
   | none => rfl
   | some o => cases o <;> rfl
 | lookup kk z agg ok m ke =>
  simp only [Gn, Zk, Qgh, Zh, Q0x]
  cases Q9 tm m <;> try rfl
  rename_i r
  cases Q9 tm ke
  case p kv =>
   simp only []
   cases h : hp[r]? with
   | none => rfl
   | some o =>
    cases o <;> try rfl
    rename_i es
    simp only [Q91, Jl]
    cases Q59 kk kv with
    | false => rfl
    | true =>
     simp only [if_true, Bool.true_eq_false, if_false]
     cases Q9d kv 0 es with
     | none => rfl
     | some r =>
      cases r with
      | none =>
       simp only [Ug, Q2d, Gv]
       cases sOf agg (z.map AV.p) <;> cases ok <;> rfl
      | some r => cases ok <;> rfl
  all_goals
   simp only []
   cases h : hp[r]? with
   | none => rfl
   | some o => cases o <;> rfl
 | makeSlice z bytes l c =>
  simp only [Gn, Zk, Q9w, Zh]
  cases Q9 tm l <;> try rfl
  rename_i v; cases v <;> try rfl
  simp only []
  cases Q9 tm c <;> try rfl
  rename_i v; cases v <;> try rfl
  simp only [Jl, Ug, Q5p]
  rename_i l _ c
  by_cases h1 : 0 ≤ l <;> by_cases h2 : l ≤ c <;> by_cases h3 : c * bytes ≤ 1099511627776 <;> simp [h1, h2, h3, fin, Q23]
 | sliceStr x lo hi =>
  simp only [Gn, Zk, Qbf, Zh, Qin, Qer, Jl]
  cases Q9 tm x <;> try rfl
  rename_i v; cases v <;> try rfl
  rename_i s
  simp only []
  cases Q9r 0 (lo.map (Q9 tm)) <;> try rfl
  rename_i l
  simp only []
  cases Q9r s.length (hi.map (Q9 tm)) <;> try rfl
  rename_i h
  by_cases h1 : l ≤ h <;> by_cases h2 : h ≤ s.length <;> simp [h1, h2, fin, Z8, Jx]
 | slice esz x lo hi =>
  simp only [Gn, Zk, Qjq, Zh, Qin, Qer, Jl]
  cases Q9 tm x <;> try rfl
  ·rename_i v; cases v <;> try rfl
   rename_i es s
   simp only []
   cases Q9r 0 (lo.map (Q9 tm)) <;> try rfl
   rename_i l
   simp only []
   cases Q9r s.length (hi.map (Q9 tm)) <;> try rfl
   rename_i h
   by_cases h0 : es = esz <;> by_cases h1 : l ≤ h <;> by_cases h2 : h ≤ s.length <;> simp [h0, h1, h2, fin, Z8, Jx]
  ·rename_i es a off s
   simp only []
   cases Q9r 0 (lo.map (Q9 tm)) <;> try rfl
   rename_i l
   simp only []
   cases Q9r s (hi.map (Q9 tm)) <;> try rfl
   rename_i h
   by_cases h0 : es = esz <;> by_cases h1 : l ≤ h <;> by_cases h2 : h ≤ s <;> simp [h0, h1, h2, fin, Z8, Jx]
 | sliceArr n esz x lo hi =>
  simp only [Gn, Zk, Qbp, Zh, Qin, Qer, Jl, Q0x]
  cases Q9 tm x <;> try rfl
  rename_i a off
  simp only []
  cases hp[a]? with
  | none => rfl
  | some o =>
   cases o <;> try rfl
   rename_i cs
   simp only []
   cases Q9r 0 (lo.map (Q9 tm)) <;> try rfl
   rename_i l
   simp only []
   cases Q9r n (hi.map (Q9 tm)) <;> try rfl
   rename_i h
   by_cases h0 : off + n * esz ≤ cs.length <;> by_cases h1 : l ≤ h <;> by_cases h2 : h ≤ n <;> simp [h0, h1, h2, fin, Z8, Jx]
 | fieldAddr x off => simp only [Gn, Zk, Q9g, Zh, Gu]; cases Q9 tm x <;> rfl
 | field x off n agg =>
  simp only [Gn, Zk, Qjp, Zh, Qo4]
  cases (Q9 tm x).aggs? <;> try rfl
  simp only [Gu, Q1n, Q2d, Gv]
  rename_i cs
  cases Q1e n (cs.drop off) with
  | none => rfl
  | some cs => simp only []; cases sOf agg cs <;> rfl
 | indexAddr esz x i =>
  simp only [Gn, Zk, Q9o, Zh, Jl, Qpj]
  cases Q9 tm x <;> try rfl
  ·rename_i v; cases v <;> try rfl
   simp only []
   cases Q9 tm i <;> try rfl
   rename_i v; cases v <;> try rfl
   rename_i es rows _ n
   by_cases h0 : es = esz <;> cases hi : idx rows n <;> simp [h0, hi, fin, Z8, Jx]
  ·simp only []
   cases Q9 tm i <;> try rfl
   rename_i v; cases v <;> try rfl
   rename_i es a off len _ n
   by_cases h1 : 0 ≤ n <;> by_cases h2 : n < len <;> simp [h1, h2, fin, Z8, Jx]
 | indexArr len esz x i =>
  simp only [Gn, Zk, Qb5, Zh, Jl]
  cases Q9 tm x <;> try rfl
  all_goals
   simp only []
   cases Q9 tm i <;> try rfl
   rename_i v; cases v <;> try rfl
   rename_i n
   by_cases h1 : 0 ≤ n <;> by_cases h2 : n < len <;> simp [h1, h2, fin, Z8, Jx]
 | indexStr x i =>
  simp only [Gn, Zk, Qc2, Zh, Qpj]
  cases Q9 tm x <;> try rfl
  rename_i v; cases v <;> try rfl
  simp only []
  cases Q9 tm i <;> try rfl
  rename_i v; cases v <;> try rfl
  simp only [Gv]
  rename_i s _ n
  cases idx s n <;> rfl
 | extract x i =>
  simp only [Gn, Zk, Qdo, Zh]
  cases Q9 tm x <;> try rfl
  ·rename_i v; cases v <;> try rfl
   rename_i vs
   simp only [Gv]
   cases vs[i]? <;> rfl
  ·rename_i vs
   simp only [Gv]
   cases vs[i]? <;> rfl
 | lenStr x =>
  simp only [Gn, Zk, Qga, Zh]
  cases Q9 tm x <;> try rfl
  rename_i v; cases v <;> rfl
 | lenSl x =>
  simp only [Gn, Zk, Qj3, Zh]
  cases Q9 tm x <;> try rfl
  rename_i v; cases v <;> rfl
 | lenMap x =>
  simp only [Gn, Zk, Qg6, Zh, Q0x]
  cases Q9 tm x <;> try rfl
  ·rename_i v; cases v <;> rfl
  ·rename_i r
   simp only []
   cases hp[r]? with
   | none => rfl
   | some o => cases o <;> rfl
 | append esz bytes s x => simp only [Gn, Zk]; exact Q9n ..
 | appendT esz bytes s x =>
  simp only [Gn, Zk, Qdu, Zh, Q9n, Qhy]
  cases hs : Q9 tm s <;> try rfl
  rename_i es a off len
  simp only [Q0x, Jl, Q80, Q94]
  cases hp[a]? with
  | none => rfl
  | some o =>
   cases o <;> try rfl
   rename_i cs
   simp only []
   by_cases h0 : off + len * esz ≤ cs.length
   ·have h1 : Nat.ble (off + len * esz) cs.length = true := by simpa using h0
    rw [h1, if_pos h0, if_pos rfl]
    rw [List.length_set]
    cases hq : Qck (hp.set a (.cells (cs.take (off + len * esz)))) hp.length esz bytes (.slice es a off len) (Q9 tm x) with
    | none => rfl
    | some q =>
     obtain ⟨v, e⟩ := q
     show k v (e.apply (hp.set a (.cells (cs.take (off + len * esz)))) (hp.set a (.cells (cs.take (off + len * esz)))).length) = k v ((e.pre a (.cells (cs.take (off + len * esz)))).apply hp hp.length)
     rw [Qfp (Qi6 hq), List.length_set]
   ·have h1 : Nat.ble (off + len * esz) cs.length = false := by rw [← Bool.not_eq_true, Nat.ble_eq]; exact h0
    rw [h1, if_neg h0]; rfl
 | copyB d s =>
  have hc : ∀ new, (match Q9 tm d with
    | .p .nilSlice => k (.p (.int .i64 0)) hp
    | .slice es a off len => Qid E hp a fun
     | .cells cs => chk E (Nat.beq es 1 && (Nat.ble (off + len) cs.length && Nat.ble 1 len))
      (Qfw len new cs off fun n cs => Qq3 hp a (.cells cs) fun hp => k (.p (.int .i64 n)) hp)
     | _ => E.fail
    | _ => E.fail) = fin E hp k (Qiq hp (Q9 tm d) new) := fun new => by
   simp only [Q0x, Jl, Qfw, Q80, Qea, Q68, Q94, Qiq]
   cases Q9 tm d <;> try rfl
   ·rename_i v; cases v <;> rfl
   ·rename_i es a off len
    simp only []
    cases hp[a]? with
    | none => rfl
    | some o =>
     cases o <;> try rfl
     rename_i cs
     simp only []
     by_cases h1 : es = 1 <;> by_cases h2 : off + len ≤ cs.length <;> by_cases h3 : 1 ≤ len <;> simp [h1, h2, h3, fin, Qcg] <;> omega
  simp only [Gn, Zk, Qk8, Zh, Qtp]
  cases Qmg hp (Q9 tm s) with
  | none => rfl
  | some new => exact hc new
 | max x y =>
  simp only [Gn, Zk, Qri, Zh, Q1h]
  cases Q9 tm x <;> try rfl
  rename_i v; cases v <;> try rfl
  simp only []
  cases Q9 tm y <;> try rfl
  rename_i v; cases v <;> try rfl
  simp [fin, Z8, Jx]
 | min x y =>
  simp only [Gn, Zk, Qs7, Zh, Q1h]
  cases Q9 tm x <;> try rfl
  rename_i v; cases v <;> try rfl
  simp only []
  cases Q9 tm y <;> try rfl
  rename_i v; cases v <;> try rfl
  simp [fin, Z8, Jx]
end
end
end Go.Av
