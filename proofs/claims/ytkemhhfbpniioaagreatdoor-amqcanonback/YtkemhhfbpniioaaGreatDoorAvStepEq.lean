/- An abstract machine for the modelled code, and what its runs say of real calls. Part of a proof of a given statement: for every input the law returns true and the arguments read as before; no condition beyond the given row. -/
import Derived.Test.YtkemhhfbpniioaaGreatDoorAvStep
namespace Go.Av
noncomputable section
universe u
section
variable {α : Type u} (E : Env α)
def fin (E : Env α) (hp : List AObj) (k : AV → List AObj → α) : Option (AV × Eff) → α
 | some (v, e) => k v (e.apply hp hp.length)
 | none => E.fail
theorem Q9w (hp : List AObj) (k : AV → List AObj → α) : fin E hp k none = E.fail := rfl
theorem Q9u (hp : List AObj) (k : AV → List AObj → α) (v : AV) (e : Eff) : fin E hp k (some (v, e)) = k v (e.apply hp hp.length) := rfl
theorem Ua {β : Type} (hp : List AObj) (k : AV → List AObj → α) (o : Option β) (f : β → Option (AV × Eff)) : fin E hp k (o.bind f) = (match o with
  | some b => fin E hp k (f b)
  | none => E.fail) := by cases o <;> rfl
theorem Qiv {β : Type} (hp : List AObj) (k : AV → List AObj → α) (o : Option β) (f : β → AV × Eff) : fin E hp k (o.map f) = (match o with
  | some b => fin E hp k (some (f b))
  | none => E.fail) := by cases o <;> rfl
theorem Gc (hp : List AObj) (o : AObj) : ({ new := some o } : Eff).apply hp hp.length = hp ++ [o] := by simp [Eff.apply, plc]
theorem Q8a (hp : List AObj) (n : Nat) (a : Nat) (o : AObj) : ({ set := some (a, o) } : Eff).apply hp n = hp.set a o := by simp [Eff.apply]
theorem Qhd (hp : List AObj) (a : Nat) (o o' : AObj) : ({ set := some (a, o), new := some o' } : Eff).apply hp hp.length = hp.set a o ++ [o'] := by simp [Eff.apply, plc]
theorem Vi (hp : List AObj) (n : Nat) : ({} : Eff).apply hp n = hp := rfl

theorem Qo2 (hp : List AObj) (esz bytes : Nat) (s : AV) (new : List AV) (n : Nat) (k : AV → List AObj → α) :
  Qq0 E hp esz bytes s new n k = fin E hp k (Qb7 hp hp.length esz bytes s new n) := by
 unfold Qq0 Qb7
 by_cases hn : n = 0
 ·subst hn
  simp only [ifB, if_true]
  cases s with
  | p v => cases v <;> rfl
  | _ => rfl
 ·have : Nat.beq n 0 = false := by cases n <;> first | rfl | simp_all
  simp only [this, ifB, hn, if_false]
  cases s with
  | p v =>
   cases v <;> (try rfl)
   by_cases h3 : (n + 4096) * bytes ≤ 17592186044416 <;> simp [Va, Q22, h3, fin, Gc]
  | slice es a off len =>
   simp only [Jb]
   cases h : hp[a]? with
   | none => rfl
   | some o =>
    cases o <;> simp only [Va, U9, Ut, Q5k, Q22, fin] <;> (try rfl)
    by_cases h1 : es = esz <;> rename_i cs <;> by_cases h2 : off + len * esz = cs.length <;> by_cases h3 : (len + n + 4096) * bytes ≤ 17592186044416 <;> simp [h1, h2, h3, Qhd, List.length_set]
  | _ => rfl

theorem Qpd (hp : List AObj) (K : List AV → α) (v : AV) : Qrv E hp K v = (match Qjb hp v with
  | some new => K new
  | none => E.fail) := by
 unfold Qrv Qjb
 cases v <;> try rfl
 ·rename_i p; cases p <;> try rfl
  ·simp [We]
  ·rename_i es rows
   simp only [Va, We]
   by_cases h0 : es = 1
   ·simp [h0]
   ·have : Nat.beq es 1 = false := by rw [← Bool.not_eq_true, Nat.beq_eq]; exact h0
    simp [h0, this]
 ·rename_i es b off n
  simp only [Jb, U9, Va, Jx]
  cases hp[b]? with
  | none => rfl
  | some o =>
   cases o <;> try rfl
   rename_i cs
   by_cases h0 : es = 1
   ·simp only [h0, if_true, Nat.beq_refl]
    cases Jl n (cs.drop off) <;> rfl
   ·have : Nat.beq es 1 = false := by rw [← Bool.not_eq_true, Nat.beq_eq]; exact h0
    simp [h0, this]
theorem Q5q (tm : List AV) (hp : List AObj) (k : AV → List AObj → α) (esz bytes : Nat) (s x : Opd) : Q23 E tm hp k esz bytes s x = fin E hp k (Q8i hp hp.length esz bytes (Q6 tm s) (Q6 tm x)) := by
 simp only [Q8i, Q23, Z0, Jb, Va, Qo2, We, U9, Jx]
 cases Q6 tm x <;> try rfl
 ·rename_i v; cases v <;> try rfl
  ·rename_i b
   by_cases h0 : esz = 1
   ·simp [h0]
   ·have : Nat.beq esz 1 = false := by rw [← Bool.not_eq_true, Nat.beq_eq]; exact h0
    simp [h0, this, Q9w]
  ·rename_i es rows
   by_cases h0 : es = esz
   ·simp [h0]
   ·have : Nat.beq es esz = false := by rw [← Bool.not_eq_true, Nat.beq_eq]; exact h0
    simp [h0, this, Q9w]
 ·rename_i es b off n
  simp only []
  cases hp[b]? with
  | none => rfl
  | some o =>
   cases o <;> try rfl
   rename_i cs
   by_cases h0 : es = esz
   ·simp only [h0, if_true, Ua, Nat.beq_refl]
    cases Jl (n * esz) (cs.drop off) <;> rfl
   ·have : Nat.beq es esz = false := by rw [← Bool.not_eq_true, Nat.beq_eq]; exact h0
    simp [h0, this, Q9w]
theorem Q8b (tm : List AV) (hp : List AObj) (k : AV → List AObj → α) (c : COp) (hc : c.isCall = false) :
  U1 E tm hp k c = fin E hp k (Z3 E.glob tm hp hp.length c) := by
 cases c with
 | call f args => cases hc
 | callv f args => cases hc
 | move x => simp only [U1, Z3, Qi0, Z0]; rfl
 | pick c a b =>
  simp only [U1, Z3, Qjf, Z0, Jr]
  cases Q6 tm c <;> try rfl
  rename_i v; cases v <;> try rfl
  rename_i b; cases b <;> rfl
 | alloc z => simp only [U1, Z3, Qg8, We, Q22, Q9u, Gc]
 | box x =>
  simp only [U1, Z3, Qnt, Z0, Q7x, Q22, Qiv, Q9u, Gc]
  cases (Q6 tm x).cells? <;> rfl
 | build z ps =>
  simp only [U1, Z3, Qg3, We, Qaa, Ua]
  cases Q1h tm (z.map AV.p) ps <;> rfl
 | buildSlice z len esz ps =>
  simp only [U1, Z3, Q4i, We, Qaa, Q22, Qiv, Q9u, Gc]
  cases Q1h tm ((List.replicate len z).flatten.map AV.p) ps <;> rfl
 | load n agg x =>
  simp only [U1, Z3, Qj7, Z0, Q37, Jx, G6, Ua]
  cases Vy E.glob hp (Q6 tm x) with
  | none => rfl
  | some cs =>
   simp only []
   cases Jl n cs with
   | none => rfl
   | some cs => simp only []; cases sOf agg cs <;> rfl
 | store n x y =>
  simp only [U1, Z3, Qes, Z0, Jb, Q7x, Va, Q2i, Q5k]
  cases Q6 tm x <;> try rfl
  rename_i a off
  simp only []
  cases hp[a]? with
  | none => rfl
  | some o =>
   cases o <;> try rfl
   rename_i cs
   simp only []
   cases (Q6 tm y).cells? with
   | none => rfl
   | some v =>
    simp only []
    by_cases h1 : v.length = n <;> by_cases h2 : off + n ≤ cs.length <;> simp [h1, h2, fin, Q8a]
 | nilCheck x =>
  simp only [U1, Z3, Q8g, Z0]
  cases Q6 tm x <;> try rfl
  ·rename_i v; cases v <;> try rfl
   rename_i fn a b; cases fn <;> rfl
  ·rename_i fn a b; cases fn <;> rfl
 | ari op x y =>
  simp only [U1, Z3, Qnx, Z0]
  cases Q6 tm x <;> try rfl
  rename_i v
  cases v <;> try rfl
  ·simp only []
   cases Q6 tm y <;> try rfl
   rename_i v
   cases v <;> try rfl
   simp only [Qox, Va]
   rename_i i x j y
   cases Q9m op i j
   ·rfl
   ·simp only [if_true, Ua]
    cases Qpo op i x y <;> rfl
  ·simp only []
   cases Q6 tm y <;> try rfl
   rename_i v
   cases v <;> try rfl
   cases op <;> try rfl
   simp only [Va]
   rename_i s t
   by_cases h : s.length + t.length ≤ 4611686018427387904 <;> simp [h, fin, Qu, Vi]
 | cmp op x y =>
  simp only [U1, Z3, Qnw, Z0, Ua]
  cases Q6 tm x <;> try rfl
  rename_i v
  cases v <;> try rfl
  ·simp only []
   cases Q6 tm y <;> try rfl
   rename_i v
   cases v <;> try rfl
   rename_i i x j y
   simp only [Va, Qqy]
   cases i == j <;> rfl
  ·simp only []
   cases Q6 tm y <;> try rfl
   rename_i v
   cases v <;> rfl
 | eqB neg x y =>
  simp only [U1, Z3, Qn7, Z0]
  cases Q6 tm x <;> try rfl
  rename_i v
  cases v <;> try rfl
  simp only []
  cases Q6 tm y <;> try rfl
  rename_i v
  cases v <;> try rfl
  cases neg <;> rfl
 | eqP neg x y =>
  simp only [U1, Z3, Qnd, Z0]
  cases Q6 tm x <;> try rfl
  ·rename_i v
   cases v <;> try rfl
   simp only []
   cases Q6 tm y <;> try rfl
   rename_i v
   cases v <;> rfl
  ·simp only []
   cases Q6 tm y <;> try rfl
   rename_i v
   cases v <;> rfl
 | eqAgg neg kinds x y =>
  simp only [U1, Z3, Qgd, Z0, Qi9]
  cases (Q6 tm x).aggs? <;> try rfl
  simp only []
  cases (Q6 tm y).aggs? <;> try rfl
  simp only [Qh3, Ua, Jr]
  rename_i cs ds
  cases Vc kinds cs ds <;> rfl
 | not x =>
  simp only [U1, Z3, Qns, Z0]; cases Q6 tm x <;> try rfl
  rename_i v; cases v <;> rfl
 | neg x =>
  simp only [U1, Z3, Qnu, Z0]; cases Q6 tm x <;> try rfl
  rename_i v; cases v <;> rfl
 | conv i x =>
  simp only [U1, Z3, Qif, Z0]; cases Q6 tm x <;> try rfl
  rename_i v; cases v <;> rfl
 | bytesOf x =>
  simp only [U1, Z3, Q9j, Z0]; cases Q6 tm x <;> try rfl
  rename_i v; cases v <;> try rfl
  simp only [We, Q22, fin, Gc]
 | strOf x =>
  simp only [U1, Z3, Qev, Z0, Jb]
  cases Q6 tm x <;> try rfl
  ·rename_i v; cases v <;> rfl
  ·rename_i es a off len
   simp only []
   cases hp[a]? with
   | none => rfl
   | some o =>
    cases o <;> try rfl
    simp only [U9, Jx, Q7u, Ua]
    rename_i cs
    cases Jl len (cs.drop off) with
    | none => rfl
    | some cs => simp only []; cases Qfe cs <;> rfl
 | makeFunc fn a b => simp only [U1, Z3, Q6r, Vw]; rfl
 | makeMap => simp only [U1, Z3, Q9n, Q22, fin, Gc]
 | insert kk m ke v =>
  simp only [U1, Z3, Qby, Z0, Jb]
  cases Q6 tm m <;> try rfl
  rename_i r
  cases Q6 tm ke
  case p kv =>
   simp only []
   cases h : hp[r]? with
   | none => rfl
   | some o =>
    cases o <;> try rfl
    rename_i es
    simp only [Q4w, Va]
    cases Q1u kk kv with
    | false => rfl
    | true =>
     simp only [if_true, Bool.true_eq_false, if_false]
     cases Q58 kv 0 es with
     | none => rfl
     | some r => cases r <;> simp [Q5k, Ut, fin, Q8a]
  all_goals
   simp only []
   cases h : hp[r]? with
   | none => rfl
   | some o => cases o <;> rfl
 | lookup kk z agg ok m ke =>
  simp only [U1, Z3, Qcm, Z0, Jb]
  cases Q6 tm m <;> try rfl
  rename_i r
  cases Q6 tm ke
  case p kv =>
   simp only []
   cases h : hp[r]? with
   | none => rfl
   | some o =>
    cases o <;> try rfl
    rename_i es
    simp only [Q4w, Va]
    cases Q1u kk kv with
    | false => rfl
    | true =>
     simp only [if_true, Bool.true_eq_false, if_false]
     cases Q58 kv 0 es with
     | none => rfl
     | some r =>
      cases r with
      | none =>
       simp only [We, G6, Ua]
       cases sOf agg (z.map AV.p) <;> cases ok <;> rfl
      | some r => cases ok <;> rfl
  all_goals
   simp only []
   cases h : hp[r]? with
   | none => rfl
   | some o => cases o <;> rfl
 | makeSlice z bytes l c =>
  simp only [U1, Z3, Q62, Z0]
  cases Q6 tm l <;> try rfl
  rename_i v; cases v <;> try rfl
  simp only []
  cases Q6 tm c <;> try rfl
  rename_i v; cases v <;> try rfl
  simp only [Va, We, Q22]
  rename_i l _ c
  by_cases h1 : 0 ≤ l <;> by_cases h2 : l ≤ c <;> by_cases h3 : c * bytes ≤ 1099511627776 <;> simp [h1, h2, h3, fin, Gc]
 | sliceStr x lo hi =>
  simp only [U1, Z3, Q82, Z0, Qdj, Qat, Va]
  cases Q6 tm x <;> try rfl
  rename_i v; cases v <;> try rfl
  rename_i s
  simp only []
  cases Q5w 0 (lo.map (Q6 tm)) <;> try rfl
  rename_i l
  simp only []
  cases Q5w s.length (hi.map (Q6 tm)) <;> try rfl
  rename_i h
  by_cases h1 : l ≤ h <;> by_cases h2 : h ≤ s.length <;> simp [h1, h2, fin, Qu, Vi]
 | slice esz x lo hi =>
  simp only [U1, Z3, Qg4, Z0, Qdj, Qat, Va]
  cases Q6 tm x <;> try rfl
  ·rename_i v; cases v <;> try rfl
   rename_i es s
   simp only []
   cases Q5w 0 (lo.map (Q6 tm)) <;> try rfl
   rename_i l
   simp only []
   cases Q5w s.length (hi.map (Q6 tm)) <;> try rfl
   rename_i h
   by_cases h0 : es = esz <;> by_cases h1 : l ≤ h <;> by_cases h2 : h ≤ s.length <;> simp [h0, h1, h2, fin, Qu, Vi]
  ·rename_i es a off s
   simp only []
   cases Q5w 0 (lo.map (Q6 tm)) <;> try rfl
   rename_i l
   simp only []
   cases Q5w s (hi.map (Q6 tm)) <;> try rfl
   rename_i h
   by_cases h0 : es = esz <;> by_cases h1 : l ≤ h <;> by_cases h2 : h ≤ s <;> simp [h0, h1, h2, fin, Qu, Vi]
 | sliceArr n esz x lo hi =>
  simp only [U1, Z3, Q89, Z0, Qdj, Qat, Va, Jb]
  cases Q6 tm x <;> try rfl
  rename_i a off
  simp only []
  cases hp[a]? with
  | none => rfl
  | some o =>
   cases o <;> try rfl
   rename_i cs
   simp only []
   cases Q5w 0 (lo.map (Q6 tm)) <;> try rfl
   rename_i l
   simp only []
   cases Q5w n (hi.map (Q6 tm)) <;> try rfl
   rename_i h
   by_cases h0 : off + n * esz ≤ cs.length <;> by_cases h1 : l ≤ h <;> by_cases h2 : h ≤ n <;> simp [h0, h1, h2, fin, Qu, Vi]
 | fieldAddr x off => simp only [U1, Z3, Q5v, Z0, U9]; cases Q6 tm x <;> rfl
 | field x off n agg =>
  simp only [U1, Z3, Qfo, Z0, Qi9]
  cases (Q6 tm x).aggs? <;> try rfl
  simp only [U9, Jx, G6, Ua]
  rename_i cs
  cases Jl n (cs.drop off) with
  | none => rfl
  | some cs => simp only []; cases sOf agg cs <;> rfl
 | indexAddr esz x i =>
  simp only [U1, Z3, Q5z, Z0, Va, Ql4]
  cases Q6 tm x <;> try rfl
  ·rename_i v; cases v <;> try rfl
   simp only []
   cases Q6 tm i <;> try rfl
   rename_i v; cases v <;> try rfl
   rename_i es rows _ n
   by_cases h0 : es = esz <;> cases hi : idx rows n <;> simp [h0, hi, fin, Qu, Vi]
  ·simp only []
   cases Q6 tm i <;> try rfl
   rename_i v; cases v <;> try rfl
   rename_i es a off len _ n
   by_cases h1 : 0 ≤ n <;> by_cases h2 : n < len <;> simp [h1, h2, fin, Qu, Vi]
 | indexArr len esz x i =>
  simp only [U1, Z3, Q6x, Z0, Va]
  cases Q6 tm x <;> try rfl
  all_goals
   simp only []
   cases Q6 tm i <;> try rfl
   rename_i v; cases v <;> try rfl
   rename_i n
   by_cases h1 : 0 ≤ n <;> by_cases h2 : n < len <;> simp [h1, h2, fin, Qu, Vi]
 | indexStr x i =>
  simp only [U1, Z3, Q6w, Z0, Ql4]
  cases Q6 tm x <;> try rfl
  rename_i v; cases v <;> try rfl
  simp only []
  cases Q6 tm i <;> try rfl
  rename_i v; cases v <;> try rfl
  simp only [Ua]
  rename_i s _ n
  cases idx s n <;> rfl
 | extract x i =>
  simp only [U1, Z3, Q9d, Z0]
  cases Q6 tm x <;> try rfl
  ·rename_i v; cases v <;> try rfl
   rename_i vs
   simp only [Ua]
   cases vs[i]? <;> rfl
  ·rename_i vs
   simp only [Ua]
   cases vs[i]? <;> rfl
 | lenStr x =>
  simp only [U1, Z3, Qbe, Z0]
  cases Q6 tm x <;> try rfl
  rename_i v; cases v <;> rfl
 | lenSl x =>
  simp only [U1, Z3, Qf4, Z0]
  cases Q6 tm x <;> try rfl
  rename_i v; cases v <;> rfl
 | lenMap x =>
  simp only [U1, Z3, Qc4, Z0, Jb]
  cases Q6 tm x <;> try rfl
  ·rename_i v; cases v <;> rfl
  ·rename_i r
   simp only []
   cases hp[r]? with
   | none => rfl
   | some o => cases o <;> rfl
 | append esz bytes s x => simp only [U1, Z3]; exact Q5q ..
 | appendT esz bytes s x =>
  simp only [U1, Z3, Q9b, Z0, Q5q, Qe6]
  cases hs : Q6 tm s <;> try rfl
  rename_i es a off len
  simp only [Jb, Va, Q42, Q5k]
  cases hp[a]? with
  | none => rfl
  | some o =>
   cases o <;> try rfl
   rename_i cs
   simp only []
   by_cases h0 : off + len * esz ≤ cs.length
   ·have h1 : Nat.ble (off + len * esz) cs.length = true := by simpa using h0
    rw [h1, if_pos h0, if_pos rfl]
    rw [List.length_set]
    cases hq : Q8i (hp.set a (.cells (cs.take (off + len * esz)))) hp.length esz bytes (.slice es a off len) (Q6 tm x) with
    | none => rfl
    | some q =>
     obtain ⟨v, e⟩ := q
     show k v (e.apply (hp.set a (.cells (cs.take (off + len * esz)))) (hp.set a (.cells (cs.take (off + len * esz)))).length) = k v ((e.pre a (.cells (cs.take (off + len * esz)))).apply hp hp.length)
     rw [Qbf (Qe0 hq), List.length_set]
   ·have h1 : Nat.ble (off + len * esz) cs.length = false := by rw [← Bool.not_eq_true, Nat.ble_eq]; exact h0
    rw [h1, if_neg h0]; rfl
 | copyB d s =>
  have hc : ∀ new, (match Q6 tm d with
    | .p .nilSlice => k (.p (.int .i64 0)) hp
    | .slice es a off len => Qdx E hp a fun
     | .cells cs => chk E (Nat.beq es 1 && (Nat.ble (off + len) cs.length && Nat.ble 1 len))
      (Qad len new cs off fun n cs => Qn2 hp a (.cells cs) fun hp => k (.p (.int .i64 n)) hp)
     | _ => E.fail
    | _ => E.fail) = fin E hp k (Qef hp (Q6 tm d) new) := fun new => by
   simp only [Jb, Va, Qad, Q42, Qan, Q2i, Q5k, Qef]
   cases Q6 tm d <;> try rfl
   ·rename_i v; cases v <;> rfl
   ·rename_i es a off len
    simp only []
    cases hp[a]? with
    | none => rfl
    | some o =>
     cases o <;> try rfl
     rename_i cs
     simp only []
     by_cases h1 : es = 1 <;> by_cases h2 : off + len ≤ cs.length <;> by_cases h3 : 1 ≤ len <;> simp [h1, h2, h3, fin, Q8a] <;> omega
  simp only [U1, Z3, Qgb, Z0, Qpd]
  cases Qjb hp (Q6 tm s) with
  | none => rfl
  | some new => exact hc new
 | max x y =>
  simp only [U1, Z3, Qnb, Z0, Jr]
  cases Q6 tm x <;> try rfl
  rename_i v; cases v <;> try rfl
  simp only []
  cases Q6 tm y <;> try rfl
  rename_i v; cases v <;> try rfl
  simp [fin, Qu, Vi]
 | min x y =>
  simp only [U1, Z3, Qn8, Z0, Jr]
  cases Q6 tm x <;> try rfl
  rename_i v; cases v <;> try rfl
  simp only []
  cases Q6 tm y <;> try rfl
  rename_i v; cases v <;> try rfl
  simp [fin, Qu, Vi]
end
end
end Go.Av
