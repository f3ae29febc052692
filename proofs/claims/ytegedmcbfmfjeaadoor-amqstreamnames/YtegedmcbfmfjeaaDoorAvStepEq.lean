/- An abstract machine for the modelled code, and what its runs say of real calls. Part of a proof of a given statement: for every input the law returns true and the arguments read as before; no condition beyond the given row. -/
import Derived.Test.YtegedmcbfmfjeaaDoorAvStep
namespace Go.Av
noncomputable section
universe u
section
variable {α : Type u} (E : Env α)
def fin (E : Env α) (hp : List AObj) (k : AV → List AObj → α) : Option (AV × Eff) → α
 | some (v, e) => k v (e.apply hp hp.length)
 | none => E.fail
theorem Q3d (hp : List AObj) (k : AV → List AObj → α) : fin E hp k none = E.fail := rfl
theorem Q4d (hp : List AObj) (k : AV → List AObj → α) (v : AV) (e : Eff) : fin E hp k (some (v, e)) = k v (e.apply hp hp.length) := rfl
theorem Xf {β : Type} (hp : List AObj) (k : AV → List AObj → α) (o : Option β) (f : β → Option (AV × Eff)) : fin E hp k (o.bind f) = (match o with
  | some b => fin E hp k (f b)
  | none => E.fail) := by cases o <;> rfl
theorem Q99 {β : Type} (hp : List AObj) (k : AV → List AObj → α) (o : Option β) (f : β → AV × Eff) : fin E hp k (o.map f) = (match o with
  | some b => fin E hp k (some (f b))
  | none => E.fail) := by cases o <;> rfl
theorem Wu (hp : List AObj) (o : AObj) : ({ new := some o } : Eff).apply hp hp.length = hp ++ [o] := by simp [Eff.apply, plc]
theorem Q1m (hp : List AObj) (n : Nat) (a : Nat) (o : AObj) : ({ set := some (a, o) } : Eff).apply hp n = hp.set a o := by simp [Eff.apply]
theorem Q8a (hp : List AObj) (a : Nat) (o o' : AObj) : ({ set := some (a, o), new := some o' } : Eff).apply hp hp.length = hp.set a o ++ [o'] := by simp [Eff.apply, plc]
theorem Yk (hp : List AObj) (n : Nat) : ({} : Eff).apply hp n = hp := rfl

theorem Qcx (hp : List AObj) (esz bytes : Nat) (s : AV) (new : List AV) (n : Nat) (k : AV → List AObj → α) :
  Qds E hp esz bytes s new n k = fin E hp k (Q4i hp hp.length esz bytes s new n) := by
 unfold Qds Q4i
 by_cases hn : n = 0
 ·subst hn
  simp only [ifB, if_true]
  cases s with
  | p v => cases v <;> rfl
  | _ => rfl
 ·have : Nat.beq n 0 = false := by cases n <;> first | rfl | simp_all
  simp only [this, ifB, hn, if_false]
  cases s with
  | p v =>
   cases v <;> (try rfl)
   by_cases h3 : (n + 4096) * bytes ≤ 17592186044416 <;> simp [Ye, Ux, h3, fin, Wu]
  | slice es a off len =>
   simp only [Xz]
   cases h : hp[a]? with
   | none => rfl
   | some o =>
    cases o <;> simp only [Ye, Ym, Xl, Q03, Ux, fin] <;> (try rfl)
    by_cases h1 : es = esz <;> rename_i cs <;> by_cases h2 : off + len * esz = cs.length <;> by_cases h3 : (len + n + 4096) * bytes ≤ 17592186044416 <;> simp [h1, h2, h3, Q8a, List.length_set]
  | _ => rfl

theorem Qdi (hp : List AObj) (K : List AV → α) (v : AV) : Qfh E hp K v = (match Q9n hp v with
  | some new => K new
  | none => E.fail) := by
 unfold Qfh Q9n
 cases v <;> try rfl
 ·rename_i p; cases p <;> try rfl
  ·simp [Zs]
  ·rename_i es rows
   simp only [Ye, Zs]
   by_cases h0 : es = 1
   ·simp [h0]
   ·have : Nat.beq es 1 = false := by rw [← Bool.not_eq_true, Nat.beq_eq]; exact h0
    simp [h0, this]
 ·rename_i es b off n
  simp only [Xz, Ym, Ye, Xd]
  cases hp[b]? with
  | none => rfl
  | some o =>
   cases o <;> try rfl
   rename_i cs
   by_cases h0 : es = 1
   ·simp only [h0, if_true, Nat.beq_refl]
    cases Xk n (cs.drop off) <;> rfl
   ·have : Nat.beq es 1 = false := by rw [← Bool.not_eq_true, Nat.beq_eq]; exact h0
    simp [h0, this]
theorem Q0j (tm : List AV) (hp : List AObj) (k : AV → List AObj → α) (esz bytes : Nat) (s x : Opd) : Ui E tm hp k esz bytes s x = fin E hp k (Q2e hp hp.length esz bytes (Q3 tm s) (Q3 tm x)) := by
 simp only [Q2e, Ui, Qm, Xz, Ye, Qcx, Zs, Ym, Xd]
 cases Q3 tm x <;> try rfl
 ·rename_i v; cases v <;> try rfl
  ·rename_i b
   by_cases h0 : esz = 1
   ·simp [h0]
   ·have : Nat.beq esz 1 = false := by rw [← Bool.not_eq_true, Nat.beq_eq]; exact h0
    simp [h0, this, Q3d]
  ·rename_i es rows
   by_cases h0 : es = esz
   ·simp [h0]
   ·have : Nat.beq es esz = false := by rw [← Bool.not_eq_true, Nat.beq_eq]; exact h0
    simp [h0, this, Q3d]
 ·rename_i es b off n
  simp only []
  cases hp[b]? with
  | none => rfl
  | some o =>
   cases o <;> try rfl
   rename_i cs
   by_cases h0 : es = esz
   ·simp only [h0, if_true, Xf, Nat.beq_refl]
    cases Xk (n * esz) (cs.drop off) <;> rfl
   ·have : Nat.beq es esz = false := by rw [← Bool.not_eq_true, Nat.beq_eq]; exact h0
    simp [h0, this, Q3d]
theorem Q2d (tm : List AV) (hp : List AObj) (k : AV → List AObj → α) (c : COp) (hc : c.isCall = false) :
  Yu E tm hp k c = fin E hp k (Qr E.glob tm hp hp.length c) := by
 cases c with
 | call f args => cases hc
 | callv f args => cases hc
 | move x => simp only [Yu, Qr, Q3i, Qm]; rfl
 | pick c a b =>
  simp only [Yu, Qr, Q9f, Qm, Wa]
  cases Q3 tm c <;> try rfl
  rename_i v; cases v <;> try rfl
  rename_i b; cases b <;> rfl
 | alloc z => simp only [Yu, Qr, Q74, Zs, Ux, Q4d, Wu]
 | box x =>
  simp only [Yu, Qr, Qck, Qm, Q28, Ux, Q99, Q4d, Wu]
  cases (Q3 tm x).cells? <;> rfl
 | build z ps =>
  simp only [Yu, Qr, Q7r, Zs, Q3y, Xf]
  cases U7 tm (z.map AV.p) ps <;> rfl
 | buildSlice z len esz ps =>
  simp only [Yu, Qr, G7, Zs, Q3y, Ux, Q99, Q4d, Wu]
  cases U7 tm ((List.replicate len z).flatten.map AV.p) ps <;> rfl
 | load n agg x =>
  simp only [Yu, Qr, Qag, Qm, Jq, Xd, Ww, Xf]
  cases X1 E.glob hp (Q3 tm x) with
  | none => rfl
  | some cs =>
   simp only []
   cases Xk n cs with
   | none => rfl
   | some cs => simp only []; cases sOf agg cs <;> rfl
 | store n x y =>
  simp only [Yu, Qr, Q7c, Qm, Xz, Q28, Ye, Vm, Q03]
  cases Q3 tm x <;> try rfl
  rename_i a off
  simp only []
  cases hp[a]? with
  | none => rfl
  | some o =>
   cases o <;> try rfl
   rename_i cs
   simp only []
   cases (Q3 tm y).cells? with
   | none => rfl
   | some v =>
    simp only []
    by_cases h1 : v.length = n <;> by_cases h2 : off + n ≤ cs.length <;> simp [h1, h2, fin, Q1m]
 | nilCheck x =>
  simp only [Yu, Qr, Q25, Qm]
  cases Q3 tm x <;> try rfl
  ·rename_i v; cases v <;> try rfl
   rename_i fn a b; cases fn <;> rfl
  ·rename_i fn a b; cases fn <;> rfl
 | ari op x y =>
  simp only [Yu, Qr, Qc7, Qm]
  cases Q3 tm x <;> try rfl
  rename_i v
  cases v <;> try rfl
  ·simp only []
   cases Q3 tm y <;> try rfl
   rename_i v
   cases v <;> try rfl
   simp only [Qd0, Ye]
   rename_i i x j y
   cases Q2y op i j
   ·rfl
   ·simp only [if_true, Xf]
    cases Qcr op i x y <;> rfl
  ·simp only []
   cases Q3 tm y <;> try rfl
   rename_i v
   cases v <;> try rfl
   cases op <;> try rfl
   simp only [Ye]
   rename_i s t
   by_cases h : s.length + t.length ≤ 4611686018427387904 <;> simp [h, fin, Qk, Yk]
 | cmp op x y =>
  simp only [Yu, Qr, Qch, Qm, Xf, E.cmp.2, E.scmp.2]
  cases Q3 tm x <;> try rfl
  rename_i v
  cases v <;> try rfl
  ·simp only []
   cases Q3 tm y <;> try rfl
   rename_i v
   cases v <;> try rfl
   rename_i i x j y
   simp only [Ye, Qeb]
   cases i == j <;> rfl
  ·simp only []
   cases Q3 tm y <;> try rfl
   rename_i v
   cases v <;> rfl
 | eqB neg x y =>
  simp only [Yu, Qr, Qc3, Qm]
  cases Q3 tm x <;> try rfl
  rename_i v
  cases v <;> try rfl
  simp only []
  cases Q3 tm y <;> try rfl
  rename_i v
  cases v <;> try rfl
  cases neg <;> rfl
 | eqP neg x y =>
  simp only [Yu, Qr, Qcp, Qm]
  cases Q3 tm x <;> try rfl
  ·rename_i v
   cases v <;> try rfl
   simp only []
   cases Q3 tm y <;> try rfl
   rename_i v
   cases v <;> rfl
  ·simp only []
   cases Q3 tm y <;> try rfl
   rename_i v
   cases v <;> rfl
 | eqAgg neg kinds x y =>
  simp only [Yu, Qr, Q7n, Qm, Qaj]
  cases (Q3 tm x).aggs? <;> try rfl
  simp only []
  cases (Q3 tm y).aggs? <;> try rfl
  simp only [Q8n, Xf, Wa]
  rename_i cs ds
  cases Yj kinds cs ds <;> rfl
 | not x =>
  simp only [Yu, Qr, Qbz, Qm]; cases Q3 tm x <;> try rfl
  rename_i v; cases v <;> rfl
 | neg x =>
  simp only [Yu, Qr, Qc1, Qm]; cases Q3 tm x <;> try rfl
  rename_i v; cases v <;> rfl
 | conv i x =>
  simp only [Yu, Qr, Qac, Qm]; cases Q3 tm x <;> try rfl
  rename_i v; cases v <;> rfl
 | bytesOf x =>
  simp only [Yu, Qr, Q31, Qm]; cases Q3 tm x <;> try rfl
  rename_i v; cases v <;> try rfl
  simp only [Zs, Ux, fin, Wu]
 | strOf x =>
  simp only [Yu, Qr, Q7h, Qm, Xz]
  cases Q3 tm x <;> try rfl
  ·rename_i v; cases v <;> rfl
  ·rename_i es a off len
   simp only []
   cases hp[a]? with
   | none => rfl
   | some o =>
    cases o <;> try rfl
    simp only [Ym, Xd, Q20, Xf]
    rename_i cs
    cases Xk len (cs.drop off) with
    | none => rfl
    | some cs => simp only []; cases Q7u cs <;> rfl
 | makeFunc fn a b => simp only [Yu, Qr, Q19, Yy]; rfl
 | makeMap => simp only [Yu, Qr, Q37, Ux, fin, Wu]
 | insert kk m ke v =>
  simp only [Yu, Qr, Q4t, Qm, Xz]
  cases Q3 tm m <;> try rfl
  rename_i r
  cases Q3 tm ke
  case p kv =>
   simp only []
   cases h : hp[r]? with
   | none => rfl
   | some o =>
    cases o <;> try rfl
    rename_i es
    simp only [Q02, Ye]
    cases Ud kk kv with
    | false => rfl
    | true =>
     simp only [if_true, Bool.true_eq_false, if_false]
     cases Gz kv 0 es with
     | none => rfl
     | some r => cases r <;> simp [Q03, Xl, fin, Q1m]
  all_goals
   simp only []
   cases h : hp[r]? with
   | none => rfl
   | some o => cases o <;> rfl
 | lookup kk z agg ok m ke =>
  simp only [Yu, Qr, Q5q, Qm, Xz]
  cases Q3 tm m <;> try rfl
  rename_i r
  cases Q3 tm ke
  case p kv =>
   simp only []
   cases h : hp[r]? with
   | none => rfl
   | some o =>
    cases o <;> try rfl
    rename_i es
    simp only [Q02, Ye]
    cases Ud kk kv with
    | false => rfl
    | true =>
     simp only [if_true, Bool.true_eq_false, if_false]
     cases Gz kv 0 es with
     | none => rfl
     | some r =>
      cases r with
      | none =>
       simp only [Zs, Ww, Xf]
       cases sOf agg (z.map AV.p) <;> cases ok <;> rfl
      | some r => cases ok <;> rfl
  all_goals
   simp only []
   cases h : hp[r]? with
   | none => rfl
   | some o => cases o <;> rfl
 | makeSlice z bytes l c =>
  simp only [Yu, Qr, Q0b, Qm]
  cases Q3 tm l <;> try rfl
  rename_i v; cases v <;> try rfl
  simp only []
  cases Q3 tm c <;> try rfl
  rename_i v; cases v <;> try rfl
  simp only [Ye, Zs, Ux]
  rename_i l _ c
  by_cases h1 : 0 ≤ l <;> by_cases h2 : l ≤ c <;> by_cases h3 : c * bytes ≤ 1099511627776 <;> simp [h1, h2, h3, fin, Wu]
 | sliceStr x lo hi =>
  simp only [Yu, Qr, Q14, Qm, Q6q, Q46, Ye]
  cases Q3 tm x <;> try rfl
  rename_i v; cases v <;> try rfl
  rename_i s
  simp only []
  cases Q0c 0 (lo.map (Q3 tm)) <;> try rfl
  rename_i l
  simp only []
  cases Q0c s.length (hi.map (Q3 tm)) <;> try rfl
  rename_i h
  by_cases h1 : l ≤ h <;> by_cases h2 : h ≤ s.length <;> simp [h1, h2, fin, Qk, Yk]
 | slice esz x lo hi =>
  simp only [Yu, Qr, Q77, Qm, Q6q, Q46, Ye]
  cases Q3 tm x <;> try rfl
  ·rename_i v; cases v <;> try rfl
   rename_i es s
   simp only []
   cases Q0c 0 (lo.map (Q3 tm)) <;> try rfl
   rename_i l
   simp only []
   cases Q0c s.length (hi.map (Q3 tm)) <;> try rfl
   rename_i h
   by_cases h0 : es = esz <;> by_cases h1 : l ≤ h <;> by_cases h2 : h ≤ s.length <;> simp [h0, h1, h2, fin, Qk, Yk]
  ·rename_i es a off s
   simp only []
   cases Q0c 0 (lo.map (Q3 tm)) <;> try rfl
   rename_i l
   simp only []
   cases Q0c s (hi.map (Q3 tm)) <;> try rfl
   rename_i h
   by_cases h0 : es = esz <;> by_cases h1 : l ≤ h <;> by_cases h2 : h ≤ s <;> simp [h0, h1, h2, fin, Qk, Yk]
 | sliceArr n esz x lo hi =>
  simp only [Yu, Qr, Q17, Qm, Q6q, Q46, Ye, Xz]
  cases Q3 tm x <;> try rfl
  rename_i a off
  simp only []
  cases hp[a]? with
  | none => rfl
  | some o =>
   cases o <;> try rfl
   rename_i cs
   simp only []
   cases Q0c 0 (lo.map (Q3 tm)) <;> try rfl
   rename_i l
   simp only []
   cases Q0c n (hi.map (Q3 tm)) <;> try rfl
   rename_i h
   by_cases h0 : off + n * esz ≤ cs.length <;> by_cases h1 : l ≤ h <;> by_cases h2 : h ≤ n <;> simp [h0, h1, h2, fin, Qk, Yk]
 | fieldAddr x off => simp only [Yu, Qr, Q0n, Qm, Ym]; cases Q3 tm x <;> rfl
 | field x off n agg =>
  simp only [Yu, Qr, Q7t, Qm, Qaj]
  cases (Q3 tm x).aggs? <;> try rfl
  simp only [Ym, Xd, Ww, Xf]
  rename_i cs
  cases Xk n (cs.drop off) with
  | none => rfl
  | some cs => simp only []; cases sOf agg cs <;> rfl
 | indexAddr esz x i =>
  simp only [Yu, Qr, Q0k, Qm, Ye, Qbg]
  cases Q3 tm x <;> try rfl
  ·rename_i v; cases v <;> try rfl
   simp only []
   cases Q3 tm i <;> try rfl
   rename_i v; cases v <;> try rfl
   rename_i es rows _ n
   by_cases h0 : es = esz <;> cases hi : idx rows n <;> simp [h0, hi, fin, Qk, Yk]
  ·simp only []
   cases Q3 tm i <;> try rfl
   rename_i v; cases v <;> try rfl
   rename_i es a off len _ n
   by_cases h1 : 0 ≤ n <;> by_cases h2 : n < len <;> simp [h1, h2, fin, Qk, Yk]
 | indexArr len esz x i =>
  simp only [Yu, Qr, Q1l, Qm, Ye]
  cases Q3 tm x <;> try rfl
  all_goals
   simp only []
   cases Q3 tm i <;> try rfl
   rename_i v; cases v <;> try rfl
   rename_i n
   by_cases h1 : 0 ≤ n <;> by_cases h2 : n < len <;> simp [h1, h2, fin, Qk, Yk]
 | indexStr x i =>
  simp only [Yu, Qr, Q2c, Qm, Qbg]
  cases Q3 tm x <;> try rfl
  rename_i v; cases v <;> try rfl
  simp only []
  cases Q3 tm i <;> try rfl
  rename_i v; cases v <;> try rfl
  simp only [Xf]
  rename_i s _ n
  cases idx s n <;> rfl
 | extract x i =>
  simp only [Yu, Qr, J2, Qm]
  cases Q3 tm x <;> try rfl
  ·rename_i v; cases v <;> try rfl
   rename_i vs
   simp only [Xf]
   cases vs[i]? <;> rfl
  ·rename_i vs
   simp only [Xf]
   cases vs[i]? <;> rfl
 | lenStr x =>
  simp only [Yu, Qr, Q5x, Qm]
  cases Q3 tm x <;> try rfl
  rename_i v; cases v <;> rfl
 | lenSl x =>
  simp only [Yu, Qr, Q7m, Qm]
  cases Q3 tm x <;> try rfl
  rename_i v; cases v <;> rfl
 | lenMap x =>
  simp only [Yu, Qr, Q5l, Qm, Xz]
  cases Q3 tm x <;> try rfl
  ·rename_i v; cases v <;> rfl
  ·rename_i r
   simp only []
   cases hp[r]? with
   | none => rfl
   | some o => cases o <;> rfl
 | append esz bytes s x => simp only [Yu, Qr]; exact Q0j ..
 | appendT esz bytes s x =>
  simp only [Yu, Qr, Q2w, Qm, Q0j, Q6a]
  cases hs : Q3 tm s <;> try rfl
  rename_i es a off len
  simp only [Xz, Ye, J3, Q03]
  cases hp[a]? with
  | none => rfl
  | some o =>
   cases o <;> try rfl
   rename_i cs
   simp only []
   by_cases h0 : off + len * esz ≤ cs.length
   ·have h1 : Nat.ble (off + len * esz) cs.length = true := by simpa using h0
    rw [h1, if_pos h0, if_pos rfl]
    rw [List.length_set]
    cases hq : Q2e (hp.set a (.cells (cs.take (off + len * esz)))) hp.length esz bytes (.slice es a off len) (Q3 tm x) with
    | none => rfl
    | some q =>
     obtain ⟨v, e⟩ := q
     show k v (e.apply (hp.set a (.cells (cs.take (off + len * esz)))) (hp.set a (.cells (cs.take (off + len * esz)))).length) = k v ((e.pre a (.cells (cs.take (off + len * esz)))).apply hp hp.length)
     rw [Q5r (Q60 hq), List.length_set]
   ·have h1 : Nat.ble (off + len * esz) cs.length = false := by rw [← Bool.not_eq_true, Nat.ble_eq]; exact h0
    rw [h1, if_neg h0]; rfl
 | copyB d s =>
  have hc : ∀ new, (match Q3 tm d with
    | .p .nilSlice => k (.p (.int .i64 0)) hp
    | .slice es a off len => Q6g E hp a fun
     | .cells cs => chk E (Nat.beq es 1 && (Nat.ble (off + len) cs.length && Nat.ble 1 len))
      (Q2j len new cs off fun n cs => Qbm hp a (.cells cs) fun hp => k (.p (.int .i64 n)) hp)
     | _ => E.fail
    | _ => E.fail) = fin E hp k (Q6j hp (Q3 tm d) new) := fun new => by
   simp only [Xz, Ye, Q2j, J3, Q1w, Vm, Q03, Q6j]
   cases Q3 tm d <;> try rfl
   ·rename_i v; cases v <;> rfl
   ·rename_i es a off len
    simp only []
    cases hp[a]? with
    | none => rfl
    | some o =>
     cases o <;> try rfl
     rename_i cs
     simp only []
     by_cases h1 : es = 1 <;> by_cases h2 : off + len ≤ cs.length <;> by_cases h3 : 1 ≤ len <;> simp [h1, h2, h3, fin, Q1m] <;> omega
  simp only [Yu, Qr, Q7w, Qm, Qdi]
  cases Q9n hp (Q3 tm s) with
  | none => rfl
  | some new => exact hc new
 | max x y =>
  simp only [Yu, Qr, Qc4, Qm, Wa]
  cases Q3 tm x <;> try rfl
  rename_i v; cases v <;> try rfl
  simp only []
  cases Q3 tm y <;> try rfl
  rename_i v; cases v <;> try rfl
  simp [fin, Qk, Yk]
 | min x y =>
  simp only [Yu, Qr, Qcm, Qm, Wa]
  cases Q3 tm x <;> try rfl
  rename_i v; cases v <;> try rfl
  simp only []
  cases Q3 tm y <;> try rfl
  rename_i v; cases v <;> try rfl
  simp [fin, Qk, Yk]
end
end
end Go.Av
