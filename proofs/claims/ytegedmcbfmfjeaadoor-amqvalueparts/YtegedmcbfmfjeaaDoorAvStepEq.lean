/- An abstract machine for the modelled code, and what its runs say of real calls. Part of a proof of a given statement: for every input the law returns true and the arguments read as before; no condition beyond the given row. -/
import Derived.Test.YtegedmcbfmfjeaaDoorAvStep
namespace Go.Av
noncomputable section
universe u
section
variable {α : Type u} (E : Env α)
def fin (E : Env α) (hp : List AObj) (k : AV → List AObj → α) : Option (AV × Eff) → α
 | some (v, e) => k v (e.apply hp hp.length)
 | none => E.fail
theorem Qax (hp : List AObj) (k : AV → List AObj → α) : fin E hp k none = E.fail := rfl
theorem Qac (hp : List AObj) (k : AV → List AObj → α) (v : AV) (e : Eff) : fin E hp k (some (v, e)) = k v (e.apply hp hp.length) := rfl
theorem U8 {β : Type} (hp : List AObj) (k : AV → List AObj → α) (o : Option β) (f : β → Option (AV × Eff)) : fin E hp k (o.bind f) = (match o with
  | some b => fin E hp k (f b)
  | none => E.fail) := by cases o <;> rfl
theorem Qhq {β : Type} (hp : List AObj) (k : AV → List AObj → α) (o : Option β) (f : β → AV × Eff) : fin E hp k (o.map f) = (match o with
  | some b => fin E hp k (some (f b))
  | none => E.fail) := by cases o <;> rfl
theorem G6 (hp : List AObj) (o : AObj) : ({ new := some o } : Eff).apply hp hp.length = hp ++ [o] := by simp [Eff.apply, plc]
theorem Q7x (hp : List AObj) (n : Nat) (a : Nat) (o : AObj) : ({ set := some (a, o) } : Eff).apply hp n = hp.set a o := by simp [Eff.apply]
theorem Qfz (hp : List AObj) (a : Nat) (o o' : AObj) : ({ set := some (a, o), new := some o' } : Eff).apply hp hp.length = hp.set a o ++ [o'] := by simp [Eff.apply, plc]
theorem Vc (hp : List AObj) (n : Nat) : ({} : Eff).apply hp n = hp := rfl

theorem Qmb (hp : List AObj) (esz bytes : Nat) (s : AV) (new : List AV) (n : Nat) (k : AV → List AObj → α) :
  Qo1 E hp esz bytes s new n k = fin E hp k (Qb3 hp hp.length esz bytes s new n) := by
 unfold Qo1 Qb3
 by_cases hn : n = 0
 ·subst hn
  simp only [ifB, if_true]
  cases s with
  | p v => cases v <;> rfl
  | _ => rfl
 ·have : Nat.beq n 0 = false := by cases n <;> first | rfl | simp_all
  simp only [this, ifB, hn, if_false]
  cases s with
  | p v =>
   cases v <;> (try rfl)
   by_cases h3 : (n + 4096) * bytes ≤ 17592186044416 <;> simp [V4, Q25, h3, fin, G6]
  | slice es a off len =>
   simp only [J6]
   cases h : hp[a]? with
   | none => rfl
   | some o =>
    cases o <;> simp only [V4, U7, Ut, Q56, Q25, fin] <;> (try rfl)
    by_cases h1 : es = esz <;> rename_i cs <;> by_cases h2 : off + len * esz = cs.length <;> by_cases h3 : (len + n + 4096) * bytes ≤ 17592186044416 <;> simp [h1, h2, h3, Qfz, List.length_set]
  | _ => rfl

theorem Qmo (hp : List AObj) (K : List AV → α) (v : AV) : Qpm E hp K v = (match Qjd hp v with
  | some new => K new
  | none => E.fail) := by
 unfold Qpm Qjd
 cases v <;> try rfl
 ·rename_i p; cases p <;> try rfl
  ·simp [Wp]
  ·rename_i es rows
   simp only [V4, Wp]
   by_cases h0 : es = 1
   ·simp [h0]
   ·have : Nat.beq es 1 = false := by rw [← Bool.not_eq_true, Nat.beq_eq]; exact h0
    simp [h0, this]
 ·rename_i es b off n
  simp only [J6, U7, V4, Gt]
  cases hp[b]? with
  | none => rfl
  | some o =>
   cases o <;> try rfl
   rename_i cs
   by_cases h0 : es = 1
   ·simp only [h0, if_true, Nat.beq_refl]
    cases Jz n (cs.drop off) <;> rfl
   ·have : Nat.beq es 1 = false := by rw [← Bool.not_eq_true, Nat.beq_eq]; exact h0
    simp [h0, this]
theorem Q5q (tm : List AV) (hp : List AObj) (k : AV → List AObj → α) (esz bytes : Nat) (s x : Opd) : Q22 E tm hp k esz bytes s x = fin E hp k (Q82 hp hp.length esz bytes (Q3 tm s) (Q3 tm x)) := by
 simp only [Q82, Q22, Z3, J6, V4, Qmb, Wp, U7, Gt]
 cases Q3 tm x <;> try rfl
 ·rename_i v; cases v <;> try rfl
  ·rename_i b
   by_cases h0 : esz = 1
   ·simp [h0]
   ·have : Nat.beq esz 1 = false := by rw [← Bool.not_eq_true, Nat.beq_eq]; exact h0
    simp [h0, this, Qax]
  ·rename_i es rows
   by_cases h0 : es = esz
   ·simp [h0]
   ·have : Nat.beq es esz = false := by rw [← Bool.not_eq_true, Nat.beq_eq]; exact h0
    simp [h0, this, Qax]
 ·rename_i es b off n
  simp only []
  cases hp[b]? with
  | none => rfl
  | some o =>
   cases o <;> try rfl
   rename_i cs
   by_cases h0 : es = esz
   ·simp only [h0, if_true, U8, Nat.beq_refl]
    cases Jz (n * esz) (cs.drop off) <;> rfl
   ·have : Nat.beq es esz = false := by rw [← Bool.not_eq_true, Nat.beq_eq]; exact h0
    simp [h0, this, Qax]
theorem Q78 (tm : List AV) (hp : List AObj) (k : AV → List AObj → α) (c : COp) (hc : c.isCall = false) :
  U3 E tm hp k c = fin E hp k (Z6 E.glob tm hp hp.length c) := by
 cases c with
 | call f args => cases hc
 | callv f args => cases hc
 | move x => simp only [U3, Z6, Qik, Z3]; rfl
 | pick c a b =>
  simp only [U3, Z6, Qhf, Z3, Jp]
  cases Q3 tm c <;> try rfl
  rename_i v; cases v <;> try rfl
  rename_i b; cases b <;> rfl
 | alloc z => simp only [U3, Z6, Qfd, Wp, Q25, Qac, G6]
 | box x =>
  simp only [U3, Z6, Qln, Z3, Q7s, Q25, Qhq, Qac, G6]
  cases (Q3 tm x).cells? <;> rfl
 | build z ps =>
  simp only [U3, Z6, Qef, Wp, Qa3, U8]
  cases Q0y tm (z.map AV.p) ps <;> rfl
 | buildSlice z len esz ps =>
  simp only [U3, Z6, Q45, Wp, Qa3, Q25, Qhq, Qac, G6]
  cases Q0y tm ((List.replicate len z).flatten.map AV.p) ps <;> rfl
 | load n agg x =>
  simp only [U3, Z6, Qh7, Z3, Q30, Gt, Gm, U8]
  cases Vz E.glob hp (Q3 tm x) with
  | none => rfl
  | some cs =>
   simp only []
   cases Jz n cs with
   | none => rfl
   | some cs => simp only []; cases sOf agg cs <;> rfl
 | store n x y =>
  simp only [U3, Z6, Qen, Z3, J6, Q7s, V4, Q2c, Q56]
  cases Q3 tm x <;> try rfl
  rename_i a off
  simp only []
  cases hp[a]? with
  | none => rfl
  | some o =>
   cases o <;> try rfl
   rename_i cs
   simp only []
   cases (Q3 tm y).cells? with
   | none => rfl
   | some v =>
    simp only []
    by_cases h1 : v.length = n <;> by_cases h2 : off + n ≤ cs.length <;> simp [h1, h2, fin, Q7x]
 | nilCheck x =>
  simp only [U3, Z6, Q7c, Z3]
  cases Q3 tm x <;> try rfl
  ·rename_i v; cases v <;> try rfl
   rename_i fn a b; cases fn <;> rfl
  ·rename_i fn a b; cases fn <;> rfl
 | ari op x y =>
  simp only [U3, Z6, Qlz, Z3]
  cases Q3 tm x <;> try rfl
  rename_i v
  cases v <;> try rfl
  ·simp only []
   cases Q3 tm y <;> try rfl
   rename_i v
   cases v <;> try rfl
   simp only [Qnp, V4]
   rename_i i x j y
   cases Q97 op i j
   ·rfl
   ·simp only [if_true, U8]
    cases Qn4 op i x y <;> rfl
  ·simp only []
   cases Q3 tm y <;> try rfl
   rename_i v
   cases v <;> try rfl
   cases op <;> try rfl
   simp only [V4]
   rename_i s t
   by_cases h : s.length + t.length ≤ 4611686018427387904 <;> simp [h, fin, Qv, Vc]
 | cmp op x y =>
  simp only [U3, Z6, Qlr, Z3, U8]
  cases Q3 tm x <;> try rfl
  rename_i v
  cases v <;> try rfl
  ·simp only []
   cases Q3 tm y <;> try rfl
   rename_i v
   cases v <;> try rfl
   rename_i i x j y
   simp only [V4, Qo3]
   cases i == j <;> rfl
  ·simp only []
   cases Q3 tm y <;> try rfl
   rename_i v
   cases v <;> rfl
 | eqB neg x y =>
  simp only [U3, Z6, Qlv, Z3]
  cases Q3 tm x <;> try rfl
  rename_i v
  cases v <;> try rfl
  simp only []
  cases Q3 tm y <;> try rfl
  rename_i v
  cases v <;> try rfl
  cases neg <;> rfl
 | eqP neg x y =>
  simp only [U3, Z6, Qlx, Z3]
  cases Q3 tm x <;> try rfl
  ·rename_i v
   cases v <;> try rfl
   simp only []
   cases Q3 tm y <;> try rfl
   rename_i v
   cases v <;> rfl
  ·simp only []
   cases Q3 tm y <;> try rfl
   rename_i v
   cases v <;> rfl
 | eqAgg neg kinds x y =>
  simp only [U3, Z6, Qeq, Z3, Qj6]
  cases (Q3 tm x).aggs? <;> try rfl
  simp only []
  cases (Q3 tm y).aggs? <;> try rfl
  simp only [Qg0, U8, Jp]
  rename_i cs ds
  cases V6 kinds cs ds <;> rfl
 | not x =>
  simp only [U3, Z6, Qlo, Z3]; cases Q3 tm x <;> try rfl
  rename_i v; cases v <;> rfl
 | neg x =>
  simp only [U3, Z6, Qm5, Z3]; cases Q3 tm x <;> try rfl
  rename_i v; cases v <;> rfl
 | conv i x =>
  simp only [U3, Z6, Qii, Z3]; cases Q3 tm x <;> try rfl
  rename_i v; cases v <;> rfl
 | bytesOf x =>
  simp only [U3, Z6, Q8q, Z3]; cases Q3 tm x <;> try rfl
  rename_i v; cases v <;> try rfl
  simp only [Wp, Q25, fin, G6]
 | strOf x =>
  simp only [U3, Z6, Qeg, Z3, J6]
  cases Q3 tm x <;> try rfl
  ·rename_i v; cases v <;> rfl
  ·rename_i es a off len
   simp only []
   cases hp[a]? with
   | none => rfl
   | some o =>
    cases o <;> try rfl
    simp only [U7, Gt, Qdp, U8]
    rename_i cs
    cases Jz len (cs.drop off) with
    | none => rfl
    | some cs => simp only []; cases Qjl cs <;> rfl
 | makeFunc fn a b => simp only [U3, Z6, Q6g, Vx]; rfl
 | makeMap => simp only [U3, Z6, Q8o, Q25, fin, G6]
 | insert kk m ke v =>
  simp only [U3, Z6, Qca, Z3, J6]
  cases Q3 tm m <;> try rfl
  rename_i r
  cases Q3 tm ke
  case p kv =>
   simp only []
   cases h : hp[r]? with
   | none => rfl
   | some o =>
    cases o <;> try rfl
    rename_i es
    simp only [Q4p, V4]
    cases Q1l kk kv with
    | false => rfl
    | true =>
     simp only [if_true, Bool.true_eq_false, if_false]
     cases Q4w kv 0 es with
     | none => rfl
     | some r => cases r <;> simp [Q56, Ut, fin, Q7x]
  all_goals
   simp only []
   cases h : hp[r]? with
   | none => rfl
   | some o => cases o <;> rfl
 | lookup kk z agg ok m ke =>
  simp only [U3, Z6, Qbl, Z3, J6]
  cases Q3 tm m <;> try rfl
  rename_i r
  cases Q3 tm ke
  case p kv =>
   simp only []
   cases h : hp[r]? with
   | none => rfl
   | some o =>
    cases o <;> try rfl
    rename_i es
    simp only [Q4p, V4]
    cases Q1l kk kv with
    | false => rfl
    | true =>
     simp only [if_true, Bool.true_eq_false, if_false]
     cases Q4w kv 0 es with
     | none => rfl
     | some r =>
      cases r with
      | none =>
       simp only [Wp, Gm, U8]
       cases sOf agg (z.map AV.p) <;> cases ok <;> rfl
      | some r => cases ok <;> rfl
  all_goals
   simp only []
   cases h : hp[r]? with
   | none => rfl
   | some o => cases o <;> rfl
 | makeSlice z bytes l c =>
  simp only [U3, Z6, Q5p, Z3]
  cases Q3 tm l <;> try rfl
  rename_i v; cases v <;> try rfl
  simp only []
  cases Q3 tm c <;> try rfl
  rename_i v; cases v <;> try rfl
  simp only [V4, Wp, Q25]
  rename_i l _ c
  by_cases h1 : 0 ≤ l <;> by_cases h2 : l ≤ c <;> by_cases h3 : c * bytes ≤ 1099511627776 <;> simp [h1, h2, h3, fin, G6]
 | sliceStr x lo hi =>
  simp only [U3, Z6, Q7l, Z3, Qd5, Qak, V4]
  cases Q3 tm x <;> try rfl
  rename_i v; cases v <;> try rfl
  rename_i s
  simp only []
  cases Q5d 0 (lo.map (Q3 tm)) <;> try rfl
  rename_i l
  simp only []
  cases Q5d s.length (hi.map (Q3 tm)) <;> try rfl
  rename_i h
  by_cases h1 : l ≤ h <;> by_cases h2 : h ≤ s.length <;> simp [h1, h2, fin, Qv, Vc]
 | slice esz x lo hi =>
  simp only [U3, Z6, Qel, Z3, Qd5, Qak, V4]
  cases Q3 tm x <;> try rfl
  ·rename_i v; cases v <;> try rfl
   rename_i es s
   simp only []
   cases Q5d 0 (lo.map (Q3 tm)) <;> try rfl
   rename_i l
   simp only []
   cases Q5d s.length (hi.map (Q3 tm)) <;> try rfl
   rename_i h
   by_cases h0 : es = esz <;> by_cases h1 : l ≤ h <;> by_cases h2 : h ≤ s.length <;> simp [h0, h1, h2, fin, Qv, Vc]
  ·rename_i es a off s
   simp only []
   cases Q5d 0 (lo.map (Q3 tm)) <;> try rfl
   rename_i l
   simp only []
   cases Q5d s (hi.map (Q3 tm)) <;> try rfl
   rename_i h
   by_cases h0 : es = esz <;> by_cases h1 : l ≤ h <;> by_cases h2 : h ≤ s <;> simp [h0, h1, h2, fin, Qv, Vc]
 | sliceArr n esz x lo hi =>
  simp only [U3, Z6, Q6j, Z3, Qd5, Qak, V4, J6]
  cases Q3 tm x <;> try rfl
  rename_i a off
  simp only []
  cases hp[a]? with
  | none => rfl
  | some o =>
   cases o <;> try rfl
   rename_i cs
   simp only []
   cases Q5d 0 (lo.map (Q3 tm)) <;> try rfl
   rename_i l
   simp only []
   cases Q5d n (hi.map (Q3 tm)) <;> try rfl
   rename_i h
   by_cases h0 : off + n * esz ≤ cs.length <;> by_cases h1 : l ≤ h <;> by_cases h2 : h ≤ n <;> simp [h0, h1, h2, fin, Qv, Vc]
 | fieldAddr x off => simp only [U3, Z6, Q5g, Z3, U7]; cases Q3 tm x <;> rfl
 | field x off n agg =>
  simp only [U3, Z6, Qf7, Z3, Qj6]
  cases (Q3 tm x).aggs? <;> try rfl
  simp only [U7, Gt, Gm, U8]
  rename_i cs
  cases Jz n (cs.drop off) with
  | none => rfl
  | some cs => simp only []; cases sOf agg cs <;> rfl
 | indexAddr esz x i =>
  simp only [U3, Z6, Q5o, Z3, V4, Qla]
  cases Q3 tm x <;> try rfl
  ·rename_i v; cases v <;> try rfl
   simp only []
   cases Q3 tm i <;> try rfl
   rename_i v; cases v <;> try rfl
   rename_i es rows _ n
   by_cases h0 : es = esz <;> cases hi : idx rows n <;> simp [h0, hi, fin, Qv, Vc]
  ·simp only []
   cases Q3 tm i <;> try rfl
   rename_i v; cases v <;> try rfl
   rename_i es a off len _ n
   by_cases h1 : 0 ≤ n <;> by_cases h2 : n < len <;> simp [h1, h2, fin, Qv, Vc]
 | indexArr len esz x i =>
  simp only [U3, Z6, Q6w, Z3, V4]
  cases Q3 tm x <;> try rfl
  all_goals
   simp only []
   cases Q3 tm i <;> try rfl
   rename_i v; cases v <;> try rfl
   rename_i n
   by_cases h1 : 0 ≤ n <;> by_cases h2 : n < len <;> simp [h1, h2, fin, Qv, Vc]
 | indexStr x i =>
  simp only [U3, Z6, Q7i, Z3, Qla]
  cases Q3 tm x <;> try rfl
  rename_i v; cases v <;> try rfl
  simp only []
  cases Q3 tm i <;> try rfl
  rename_i v; cases v <;> try rfl
  simp only [U8]
  rename_i s _ n
  cases idx s n <;> rfl
 | extract x i =>
  simp only [U3, Z6, Q8s, Z3]
  cases Q3 tm x <;> try rfl
  ·rename_i v; cases v <;> try rfl
   rename_i vs
   simp only [U8]
   cases vs[i]? <;> rfl
  ·rename_i vs
   simp only [U8]
   cases vs[i]? <;> rfl
 | lenStr x =>
  simp only [U3, Z6, Qc7, Z3]
  cases Q3 tm x <;> try rfl
  rename_i v; cases v <;> rfl
 | lenSl x =>
  simp only [U3, Z6, Qfk, Z3]
  cases Q3 tm x <;> try rfl
  rename_i v; cases v <;> rfl
 | lenMap x =>
  simp only [U3, Z6, Qck, Z3, J6]
  cases Q3 tm x <;> try rfl
  ·rename_i v; cases v <;> rfl
  ·rename_i r
   simp only []
   cases hp[r]? with
   | none => rfl
   | some o => cases o <;> rfl
 | append esz bytes s x => simp only [U3, Z6]; exact Q5q ..
 | appendT esz bytes s x =>
  simp only [U3, Z6, Q90, Z3, Q5q, Qd4]
  cases hs : Q3 tm s <;> try rfl
  rename_i es a off len
  simp only [J6, V4, Q4m, Q56]
  cases hp[a]? with
  | none => rfl
  | some o =>
   cases o <;> try rfl
   rename_i cs
   simp only []
   by_cases h0 : off + len * esz ≤ cs.length
   ·have h1 : Nat.ble (off + len * esz) cs.length = true := by simpa using h0
    rw [h1, if_pos h0, if_pos rfl]
    rw [List.length_set]
    cases hq : Q82 (hp.set a (.cells (cs.take (off + len * esz)))) hp.length esz bytes (.slice es a off len) (Q3 tm x) with
    | none => rfl
    | some q =>
     obtain ⟨v, e⟩ := q
     show k v (e.apply (hp.set a (.cells (cs.take (off + len * esz)))) (hp.set a (.cells (cs.take (off + len * esz)))).length) = k v ((e.pre a (.cells (cs.take (off + len * esz)))).apply hp hp.length)
     rw [Qcq (Qe8 hq), List.length_set]
   ·have h1 : Nat.ble (off + len * esz) cs.length = false := by rw [← Bool.not_eq_true, Nat.ble_eq]; exact h0
    rw [h1, if_neg h0]; rfl
 | copyB d s =>
  have hc : ∀ new, (match Q3 tm d with
    | .p .nilSlice => k (.p (.int .i64 0)) hp
    | .slice es a off len => Qe5 E hp a fun
     | .cells cs => chk E (Nat.beq es 1 && (Nat.ble (off + len) cs.length && Nat.ble 1 len))
      (Qe2 len new cs off fun n cs => Qki hp a (.cells cs) fun hp => k (.p (.int .i64 n)) hp)
     | _ => E.fail
    | _ => E.fail) = fin E hp k (Qdh hp (Q3 tm d) new) := fun new => by
   simp only [J6, V4, Qe2, Q4m, Qa4, Q2c, Q56, Qdh]
   cases Q3 tm d <;> try rfl
   ·rename_i v; cases v <;> rfl
   ·rename_i es a off len
    simp only []
    cases hp[a]? with
    | none => rfl
    | some o =>
     cases o <;> try rfl
     rename_i cs
     simp only []
     by_cases h1 : es = 1 <;> by_cases h2 : off + len ≤ cs.length <;> by_cases h3 : 1 ≤ len <;> simp [h1, h2, h3, fin, Q7x] <;> omega
  simp only [U3, Z6, Qfn, Z3, Qmo]
  cases Qjd hp (Q3 tm s) with
  | none => rfl
  | some new => exact hc new
 | max x y =>
  simp only [U3, Z6, Qlw, Z3, Jp]
  cases Q3 tm x <;> try rfl
  rename_i v; cases v <;> try rfl
  simp only []
  cases Q3 tm y <;> try rfl
  rename_i v; cases v <;> try rfl
  simp [fin, Qv, Vc]
 | min x y =>
  simp only [U3, Z6, Qly, Z3, Jp]
  cases Q3 tm x <;> try rfl
  rename_i v; cases v <;> try rfl
  simp only []
  cases Q3 tm y <;> try rfl
  rename_i v; cases v <;> try rfl
  simp [fin, Qv, Vc]
end
end
end Go.Av
