/- An abstract machine for the modelled code, and what its runs say of real calls. Part of a proof of a given statement: for every input the law returns true and the arguments read as before; no condition beyond the given row. -/
import Derived.Test.YtegedmcbfmfjeaaDoorAvStep
namespace Go.Av
noncomputable section
universe u
section
variable {α : Type u} (E : Env α)
def fin (E : Env α) (hp : List AObj) (k : AV → List AObj → α) : Option (AV × Eff) → α
 | some (v, e) => k v (e.apply hp hp.length)
 | none => E.fail
theorem Q6g (hp : List AObj) (k : AV → List AObj → α) : fin E hp k none = E.fail := rfl
theorem Q7i (hp : List AObj) (k : AV → List AObj → α) (v : AV) (e : Eff) : fin E hp k (some (v, e)) = k v (e.apply hp hp.length) := rfl
theorem Wm {β : Type} (hp : List AObj) (k : AV → List AObj → α) (o : Option β) (f : β → Option (AV × Eff)) : fin E hp k (o.bind f) = (match o with
  | some b => fin E hp k (f b)
  | none => E.fail) := by cases o <;> rfl
theorem Qf4 {β : Type} (hp : List AObj) (k : AV → List AObj → α) (o : Option β) (f : β → AV × Eff) : fin E hp k (o.map f) = (match o with
  | some b => fin E hp k (some (f b))
  | none => E.fail) := by cases o <;> rfl
theorem U8 (hp : List AObj) (o : AObj) : ({ new := some o } : Eff).apply hp hp.length = hp ++ [o] := by simp [Eff.apply, plc]
theorem Q3n (hp : List AObj) (n : Nat) (a : Nat) (o : AObj) : ({ set := some (a, o) } : Eff).apply hp n = hp.set a o := by simp [Eff.apply]
theorem Qco (hp : List AObj) (a : Nat) (o o' : AObj) : ({ set := some (a, o), new := some o' } : Eff).apply hp hp.length = hp.set a o ++ [o'] := by simp [Eff.apply, plc]
theorem Xt (hp : List AObj) (n : Nat) : ({} : Eff).apply hp n = hp := rfl

theorem Qiz (hp : List AObj) (esz bytes : Nat) (s : AV) (new : List AV) (n : Nat) (k : AV → List AObj → α) :
  Qjz E hp esz bytes s new n k = fin E hp k (Q7u hp hp.length esz bytes s new n) := by
 unfold Qjz Q7u
 by_cases hn : n = 0
 ·subst hn
  simp only [ifB, if_true]
  cases s with
  | p v => cases v <;> rfl
  | _ => rfl
 ·have : Nat.beq n 0 = false := by cases n <;> first | rfl | simp_all
  simp only [this, ifB, hn, if_false]
  cases s with
  | p v =>
   cases v <;> (try rfl)
   by_cases h3 : (n + 4096) * bytes ≤ 17592186044416 <;> simp [Xk, Gj, h3, fin, U8]
  | slice es a off len =>
   simp only [Ve]
   cases h : hp[a]? with
   | none => rfl
   | some o =>
    cases o <;> simp only [Xk, Xx, V2, Q25, Gj, fin] <;> (try rfl)
    by_cases h1 : es = esz <;> rename_i cs <;> by_cases h2 : off + len * esz = cs.length <;> by_cases h3 : (len + n + 4096) * bytes ≤ 17592186044416 <;> simp [h1, h2, h3, Qco, List.length_set]
  | _ => rfl

theorem Qij (hp : List AObj) (K : List AV → α) (v : AV) : Qlx E hp K v = (match Qeg hp v with
  | some new => K new
  | none => E.fail) := by
 unfold Qlx Qeg
 cases v <;> try rfl
 ·rename_i p; cases p <;> try rfl
  ·simp [Ym]
  ·rename_i es rows
   simp only [Xk, Ym]
   by_cases h0 : es = 1
   ·simp [h0]
   ·have : Nat.beq es 1 = false := by rw [← Bool.not_eq_true, Nat.beq_eq]; exact h0
    simp [h0, this]
 ·rename_i es b off n
  simp only [Ve, Xx, Xk, Wn]
  cases hp[b]? with
  | none => rfl
  | some o =>
   cases o <;> try rfl
   rename_i cs
   by_cases h0 : es = 1
   ·simp only [h0, if_true, Nat.beq_refl]
    cases Wv n (cs.drop off) <;> rfl
   ·have : Nat.beq es 1 = false := by rw [← Bool.not_eq_true, Nat.beq_eq]; exact h0
    simp [h0, this]
theorem Q2m (tm : List AV) (hp : List AObj) (k : AV → List AObj → α) (esz bytes : Nat) (s x : Opd) : Gi E tm hp k esz bytes s x = fin E hp k (Q56 hp hp.length esz bytes (Q5 tm s) (Q5 tm x)) := by
 simp only [Q56, Gi, Qz, Ve, Xk, Qiz, Ym, Xx, Wn]
 cases Q5 tm x <;> try rfl
 ·rename_i v; cases v <;> try rfl
  ·rename_i b
   by_cases h0 : esz = 1
   ·simp [h0]
   ·have : Nat.beq esz 1 = false := by rw [← Bool.not_eq_true, Nat.beq_eq]; exact h0
    simp [h0, this, Q6g]
  ·rename_i es rows
   by_cases h0 : es = esz
   ·simp [h0]
   ·have : Nat.beq es esz = false := by rw [← Bool.not_eq_true, Nat.beq_eq]; exact h0
    simp [h0, this, Q6g]
 ·rename_i es b off n
  simp only []
  cases hp[b]? with
  | none => rfl
  | some o =>
   cases o <;> try rfl
   rename_i cs
   by_cases h0 : es = esz
   ·simp only [h0, if_true, Wm, Nat.beq_refl]
    cases Wv (n * esz) (cs.drop off) <;> rfl
   ·have : Nat.beq es esz = false := by rw [← Bool.not_eq_true, Nat.beq_eq]; exact h0
    simp [h0, this, Q6g]
theorem Q3v (tm : List AV) (hp : List AObj) (k : AV → List AObj → α) (c : COp) (hc : c.isCall = false) :
  W4 E tm hp k c = fin E hp k (Z3 E.glob tm hp hp.length c) := by
 cases c with
 | call f args => cases hc
 | callv f args => cases hc
 | move x => simp only [W4, Z3, Q7p, Qz]; rfl
 | pick c a b =>
  simp only [W4, Z3, Qe5, Qz, Vi]
  cases Q5 tm c <;> try rfl
  rename_i v; cases v <;> try rfl
  rename_i b; cases b <;> rfl
 | alloc z => simp only [W4, Z3, Qc1, Ym, Gj, Q7i, U8]
 | box x =>
  simp only [W4, Z3, Qhr, Qz, Q3o, Gj, Qf4, Q7i, U8]
  cases (Q5 tm x).cells? <;> rfl
 | build z ps =>
  simp only [W4, Z3, Qb4, Ym, Q6p, Wm]
  cases Jc tm (z.map AV.p) ps <;> rfl
 | buildSlice z len esz ps =>
  simp only [W4, Z3, Q1k, Ym, Q6p, Gj, Qf4, Q7i, U8]
  cases Jc tm ((List.replicate len z).flatten.map AV.p) ps <;> rfl
 | load n agg x =>
  simp only [W4, Z3, Qdn, Qz, Q0h, Wn, Ud, Wm]
  cases Wf E.glob hp (Q5 tm x) with
  | none => rfl
  | some cs =>
   simp only []
   cases Wv n cs with
   | none => rfl
   | some cs => simp only []; cases sOf agg cs <;> rfl
 | store n x y =>
  simp only [W4, Z3, Qc2, Qz, Ve, Q3o, Xk, J6, Q25]
  cases Q5 tm x <;> try rfl
  rename_i a off
  simp only []
  cases hp[a]? with
  | none => rfl
  | some o =>
   cases o <;> try rfl
   rename_i cs
   simp only []
   cases (Q5 tm y).cells? with
   | none => rfl
   | some v =>
    simp only []
    by_cases h1 : v.length = n <;> by_cases h2 : off + n ≤ cs.length <;> simp [h1, h2, fin, Q3n]
 | nilCheck x =>
  simp only [W4, Z3, Q51, Qz]
  cases Q5 tm x <;> try rfl
  ·rename_i v; cases v <;> try rfl
   rename_i fn a b; cases fn <;> rfl
  ·rename_i fn a b; cases fn <;> rfl
 | ari op x y =>
  simp only [W4, Z3, Qi5, Qz]
  cases Q5 tm x <;> try rfl
  rename_i v
  cases v <;> try rfl
  ·simp only []
   cases Q5 tm y <;> try rfl
   rename_i v
   cases v <;> try rfl
   simp only [Qid, Xk]
   rename_i i x j y
   cases Q5l op i j
   ·rfl
   ·simp only [if_true, Wm]
    cases Qjs op i x y <;> rfl
  ·simp only []
   cases Q5 tm y <;> try rfl
   rename_i v
   cases v <;> try rfl
   cases op <;> try rfl
   simp only [Xk]
   rename_i s t
   by_cases h : s.length + t.length ≤ 4611686018427387904 <;> simp [h, fin, Qx, Xt]
 | cmp op x y =>
  simp only [W4, Z3, Qhg, Qz, Wm, E.cmp.2, E.scmp.2]
  cases Q5 tm x <;> try rfl
  rename_i v
  cases v <;> try rfl
  ·simp only []
   cases Q5 tm y <;> try rfl
   rename_i v
   cases v <;> try rfl
   rename_i i x j y
   simp only [Xk, Qkg]
   cases i == j <;> rfl
  ·simp only []
   cases Q5 tm y <;> try rfl
   rename_i v
   cases v <;> rfl
 | eqB neg x y =>
  simp only [W4, Z3, Qi4, Qz]
  cases Q5 tm x <;> try rfl
  rename_i v
  cases v <;> try rfl
  simp only []
  cases Q5 tm y <;> try rfl
  rename_i v
  cases v <;> try rfl
  cases neg <;> rfl
 | eqP neg x y =>
  simp only [W4, Z3, Qhz, Qz]
  cases Q5 tm x <;> try rfl
  ·rename_i v
   cases v <;> try rfl
   simp only []
   cases Q5 tm y <;> try rfl
   rename_i v
   cases v <;> rfl
  ·simp only []
   cases Q5 tm y <;> try rfl
   rename_i v
   cases v <;> rfl
 | eqAgg neg kinds x y =>
  simp only [W4, Z3, Qbk, Qz, Qdf]
  cases (Q5 tm x).aggs? <;> try rfl
  simp only []
  cases (Q5 tm y).aggs? <;> try rfl
  simp only [Qc7, Wm, Vi]
  rename_i cs ds
  cases Xo kinds cs ds <;> rfl
 | not x =>
  simp only [W4, Z3, Qi1, Qz]; cases Q5 tm x <;> try rfl
  rename_i v; cases v <;> rfl
 | neg x =>
  simp only [W4, Z3, Qi2, Qz]; cases Q5 tm x <;> try rfl
  rename_i v; cases v <;> rfl
 | conv i x =>
  simp only [W4, Z3, Qe0, Qz]; cases Q5 tm x <;> try rfl
  rename_i v; cases v <;> rfl
 | bytesOf x =>
  simp only [W4, Z3, Q6b, Qz]; cases Q5 tm x <;> try rfl
  rename_i v; cases v <;> try rfl
  simp only [Ym, Gj, fin, U8]
 | strOf x =>
  simp only [W4, Z3, Qbt, Qz, Ve]
  cases Q5 tm x <;> try rfl
  ·rename_i v; cases v <;> rfl
  ·rename_i es a off len
   simp only []
   cases hp[a]? with
   | none => rfl
   | some o =>
    cases o <;> try rfl
    simp only [Xx, Wn, Q3k, Wm]
    rename_i cs
    cases Wv len (cs.drop off) with
    | none => rfl
    | some cs => simp only []; cases Qbn cs <;> rfl
 | makeFunc fn a b => simp only [W4, Z3, Q43, W7]; rfl
 | makeMap => simp only [W4, Z3, Q60, Gj, fin, U8]
 | insert kk m ke v =>
  simp only [W4, Z3, Q8w, Qz, Ve]
  cases Q5 tm m <;> try rfl
  rename_i r
  cases Q5 tm ke
  case p kv =>
   simp only []
   cases h : hp[r]? with
   | none => rfl
   | some o =>
    cases o <;> try rfl
    rename_i es
    simp only [Q20, Xk]
    cases Jy kk kv with
    | false => rfl
    | true =>
     simp only [if_true, Bool.true_eq_false, if_false]
     cases Q29 kv 0 es with
     | none => rfl
     | some r => cases r <;> simp [Q25, V2, fin, Q3n]
  all_goals
   simp only []
   cases h : hp[r]? with
   | none => rfl
   | some o => cases o <;> rfl
 | lookup kk z agg ok m ke =>
  simp only [W4, Z3, Q96, Qz, Ve]
  cases Q5 tm m <;> try rfl
  rename_i r
  cases Q5 tm ke
  case p kv =>
   simp only []
   cases h : hp[r]? with
   | none => rfl
   | some o =>
    cases o <;> try rfl
    rename_i es
    simp only [Q20, Xk]
    cases Jy kk kv with
    | false => rfl
    | true =>
     simp only [if_true, Bool.true_eq_false, if_false]
     cases Q29 kv 0 es with
     | none => rfl
     | some r =>
      cases r with
      | none =>
       simp only [Ym, Ud, Wm]
       cases sOf agg (z.map AV.p) <;> cases ok <;> rfl
      | some r => cases ok <;> rfl
  all_goals
   simp only []
   cases h : hp[r]? with
   | none => rfl
   | some o => cases o <;> rfl
 | makeSlice z bytes l c =>
  simp only [W4, Z3, Q2v, Qz]
  cases Q5 tm l <;> try rfl
  rename_i v; cases v <;> try rfl
  simp only []
  cases Q5 tm c <;> try rfl
  rename_i v; cases v <;> try rfl
  simp only [Xk, Ym, Gj]
  rename_i l _ c
  by_cases h1 : 0 ≤ l <;> by_cases h2 : l ≤ c <;> by_cases h3 : c * bytes ≤ 1099511627776 <;> simp [h1, h2, h3, fin, U8]
 | sliceStr x lo hi =>
  simp only [W4, Z3, Q3p, Qz, Q9r, Q7d, Xk]
  cases Q5 tm x <;> try rfl
  rename_i v; cases v <;> try rfl
  rename_i s
  simp only []
  cases Q31 0 (lo.map (Q5 tm)) <;> try rfl
  rename_i l
  simp only []
  cases Q31 s.length (hi.map (Q5 tm)) <;> try rfl
  rename_i h
  by_cases h1 : l ≤ h <;> by_cases h2 : h ≤ s.length <;> simp [h1, h2, fin, Qx, Xt]
 | slice esz x lo hi =>
  simp only [W4, Z3, Qby, Qz, Q9r, Q7d, Xk]
  cases Q5 tm x <;> try rfl
  ·rename_i v; cases v <;> try rfl
   rename_i es s
   simp only []
   cases Q31 0 (lo.map (Q5 tm)) <;> try rfl
   rename_i l
   simp only []
   cases Q31 s.length (hi.map (Q5 tm)) <;> try rfl
   rename_i h
   by_cases h0 : es = esz <;> by_cases h1 : l ≤ h <;> by_cases h2 : h ≤ s.length <;> simp [h0, h1, h2, fin, Qx, Xt]
  ·rename_i es a off s
   simp only []
   cases Q31 0 (lo.map (Q5 tm)) <;> try rfl
   rename_i l
   simp only []
   cases Q31 s (hi.map (Q5 tm)) <;> try rfl
   rename_i h
   by_cases h0 : es = esz <;> by_cases h1 : l ≤ h <;> by_cases h2 : h ≤ s <;> simp [h0, h1, h2, fin, Qx, Xt]
 | sliceArr n esz x lo hi =>
  simp only [W4, Z3, Q4f, Qz, Q9r, Q7d, Xk, Ve]
  cases Q5 tm x <;> try rfl
  rename_i a off
  simp only []
  cases hp[a]? with
  | none => rfl
  | some o =>
   cases o <;> try rfl
   rename_i cs
   simp only []
   cases Q31 0 (lo.map (Q5 tm)) <;> try rfl
   rename_i l
   simp only []
   cases Q31 n (hi.map (Q5 tm)) <;> try rfl
   rename_i h
   by_cases h0 : off + n * esz ≤ cs.length <;> by_cases h1 : l ≤ h <;> by_cases h2 : h ≤ n <;> simp [h0, h1, h2, fin, Qx, Xt]
 | fieldAddr x off => simp only [W4, Z3, Q2t, Qz, Xx]; cases Q5 tm x <;> rfl
 | field x off n agg =>
  simp only [W4, Z3, Qba, Qz, Qdf]
  cases (Q5 tm x).aggs? <;> try rfl
  simp only [Xx, Wn, Ud, Wm]
  rename_i cs
  cases Wv n (cs.drop off) with
  | none => rfl
  | some cs => simp only []; cases sOf agg cs <;> rfl
 | indexAddr esz x i =>
  simp only [W4, Z3, Q2n, Qz, Xk, Qgj]
  cases Q5 tm x <;> try rfl
  ·rename_i v; cases v <;> try rfl
   simp only []
   cases Q5 tm i <;> try rfl
   rename_i v; cases v <;> try rfl
   rename_i es rows _ n
   by_cases h0 : es = esz <;> cases hi : idx rows n <;> simp [h0, hi, fin, Qx, Xt]
  ·simp only []
   cases Q5 tm i <;> try rfl
   rename_i v; cases v <;> try rfl
   rename_i es a off len _ n
   by_cases h1 : 0 ≤ n <;> by_cases h2 : n < len <;> simp [h1, h2, fin, Qx, Xt]
 | indexArr len esz x i =>
  simp only [W4, Z3, Q3j, Qz, Xk]
  cases Q5 tm x <;> try rfl
  all_goals
   simp only []
   cases Q5 tm i <;> try rfl
   rename_i v; cases v <;> try rfl
   rename_i n
   by_cases h1 : 0 ≤ n <;> by_cases h2 : n < len <;> simp [h1, h2, fin, Qx, Xt]
 | indexStr x i =>
  simp only [W4, Z3, Q4m, Qz, Qgj]
  cases Q5 tm x <;> try rfl
  rename_i v; cases v <;> try rfl
  simp only []
  cases Q5 tm i <;> try rfl
  rename_i v; cases v <;> try rfl
  simp only [Wm]
  rename_i s _ n
  cases idx s n <;> rfl
 | extract x i =>
  simp only [W4, Z3, Gu, Qz]
  cases Q5 tm x <;> try rfl
  ·rename_i v; cases v <;> try rfl
   rename_i vs
   simp only [Wm]
   cases vs[i]? <;> rfl
  ·rename_i vs
   simp only [Wm]
   cases vs[i]? <;> rfl
 | lenStr x =>
  simp only [W4, Z3, Q82, Qz]
  cases Q5 tm x <;> try rfl
  rename_i v; cases v <;> rfl
 | lenSl x =>
  simp only [W4, Z3, Qb9, Qz]
  cases Q5 tm x <;> try rfl
  rename_i v; cases v <;> rfl
 | lenMap x =>
  simp only [W4, Z3, Q9b, Qz, Ve]
  cases Q5 tm x <;> try rfl
  ·rename_i v; cases v <;> rfl
  ·rename_i r
   simp only []
   cases hp[r]? with
   | none => rfl
   | some o => cases o <;> rfl
 | append esz bytes s x => simp only [W4, Z3]; exact Q2m ..
 | appendT esz bytes s x =>
  simp only [W4, Z3, Q67, Qz, Q2m, Qad]
  cases hs : Q5 tm s <;> try rfl
  rename_i es a off len
  simp only [Ve, Xk, Gr, Q25]
  cases hp[a]? with
  | none => rfl
  | some o =>
   cases o <;> try rfl
   rename_i cs
   simp only []
   by_cases h0 : off + len * esz ≤ cs.length
   ·have h1 : Nat.ble (off + len * esz) cs.length = true := by simpa using h0
    rw [h1, if_pos h0, if_pos rfl]
    rw [List.length_set]
    cases hq : Q56 (hp.set a (.cells (cs.take (off + len * esz)))) hp.length esz bytes (.slice es a off len) (Q5 tm x) with
    | none => rfl
    | some q =>
     obtain ⟨v, e⟩ := q
     show k v (e.apply (hp.set a (.cells (cs.take (off + len * esz)))) (hp.set a (.cells (cs.take (off + len * esz)))).length) = k v ((e.pre a (.cells (cs.take (off + len * esz)))).apply hp hp.length)
     rw [Q92 (Qa3 hq), List.length_set]
   ·have h1 : Nat.ble (off + len * esz) cs.length = false := by rw [← Bool.not_eq_true, Nat.ble_eq]; exact h0
    rw [h1, if_neg h0]; rfl
 | copyB d s =>
  have hc : ∀ new, (match Q5 tm d with
    | .p .nilSlice => k (.p (.int .i64 0)) hp
    | .slice es a off len => Qaj E hp a fun
     | .cells cs => chk E (Nat.beq es 1 && (Nat.ble (off + len) cs.length && Nat.ble 1 len))
      (Q3m len new cs off fun n cs => Qgw hp a (.cells cs) fun hp => k (.p (.int .i64 n)) hp)
     | _ => E.fail
    | _ => E.fail) = fin E hp k (Qap hp (Q5 tm d) new) := fun new => by
   simp only [Ve, Xk, Q3m, Gr, Q50, J6, Q25, Qap]
   cases Q5 tm d <;> try rfl
   ·rename_i v; cases v <;> rfl
   ·rename_i es a off len
    simp only []
    cases hp[a]? with
    | none => rfl
    | some o =>
     cases o <;> try rfl
     rename_i cs
     simp only []
     by_cases h1 : es = 1 <;> by_cases h2 : off + len ≤ cs.length <;> by_cases h3 : 1 ≤ len <;> simp [h1, h2, h3, fin, Q3n] <;> omega
  simp only [W4, Z3, Qb5, Qz, Qij]
  cases Qeg hp (Q5 tm s) with
  | none => rfl
  | some new => exact hc new
 | max x y =>
  simp only [W4, Z3, Qhi, Qz, Vi]
  cases Q5 tm x <;> try rfl
  rename_i v; cases v <;> try rfl
  simp only []
  cases Q5 tm y <;> try rfl
  rename_i v; cases v <;> try rfl
  simp [fin, Qx, Xt]
 | min x y =>
  simp only [W4, Z3, Qhq, Qz, Vi]
  cases Q5 tm x <;> try rfl
  rename_i v; cases v <;> try rfl
  simp only []
  cases Q5 tm y <;> try rfl
  rename_i v; cases v <;> try rfl
  simp [fin, Qx, Xt]
end
end
end Go.Av
