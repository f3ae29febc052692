/- An abstract machine for the modelled code, and what its runs say of real calls. Part of a proof of a given statement: for every input the law returns true and the arguments read as before; no condition beyond the given row. -/
import Derived.Test.YtlfaihpoafmlnaaGreatDoorAvStep
namespace Go.Av
noncomputable section
universe u
section
variable {α : Type u} (E : Env α)
def fin (E : Env α) (hp : List AObj) (k : AV → List AObj → α) : Option (AV × Eff) → α
 | some (v, e) => k v (e.apply hp hp.length)
 | none => E.fail
theorem G3 (hp : List AObj) (k : AV → List AObj → α) : fin E hp k none = E.fail := rfl
theorem Jn (hp : List AObj) (k : AV → List AObj → α) (v : AV) (e : Eff) : fin E hp k (some (v, e)) = k v (e.apply hp hp.length) := rfl
theorem Qu {β : Type} (hp : List AObj) (k : AV → List AObj → α) (o : Option β) (f : β → Option (AV × Eff)) : fin E hp k (o.bind f) = (match o with
  | some b => fin E hp k (f b)
  | none => E.fail) := by cases o <;> rfl
theorem Q37 {β : Type} (hp : List AObj) (k : AV → List AObj → α) (o : Option β) (f : β → AV × Eff) : fin E hp k (o.map f) = (match o with
  | some b => fin E hp k (some (f b))
  | none => E.fail) := by cases o <;> rfl
theorem Zi (hp : List AObj) (o : AObj) : ({ new := some o } : Eff).apply hp hp.length = hp ++ [o] := by simp [Eff.apply, plc]
theorem W8 (hp : List AObj) (n : Nat) (a : Nat) (o : AObj) : ({ set := some (a, o) } : Eff).apply hp n = hp.set a o := by simp [Eff.apply]
theorem Q2s (hp : List AObj) (a : Nat) (o o' : AObj) : ({ set := some (a, o), new := some o' } : Eff).apply hp hp.length = hp.set a o ++ [o'] := by simp [Eff.apply, plc]
theorem Qo (hp : List AObj) (n : Nat) : ({} : Eff).apply hp n = hp := rfl

theorem Q6q (hp : List AObj) (esz bytes : Nat) (s : AV) (new : List AV) (n : Nat) (k : AV → List AObj → α) :
  Q6u E hp esz bytes s new n k = fin E hp k (G7 hp hp.length esz bytes s new n) := by
 unfold Q6u G7
 by_cases hn : n = 0
 ·subst hn
  simp only [ifB, if_true]
  cases s with
  | p v => cases v <;> rfl
  | _ => rfl
 ·have : Nat.beq n 0 = false := by cases n <;> first | rfl | simp_all
  simp only [this, ifB, hn, if_false]
  cases s with
  | p v =>
   cases v <;> (try rfl)
   by_cases h3 : (n + 4096) * bytes ≤ 17592186044416 <;> simp [Qm, Yj, h3, fin, Zi]
  | slice es a off len =>
   simp only [Z7]
   cases h : hp[a]? with
   | none => rfl
   | some o =>
    cases o <;> simp only [Qm, Zn, Zc, Xm, Yj, fin] <;> (try rfl)
    by_cases h1 : es = esz <;> rename_i cs <;> by_cases h2 : off + len * esz = cs.length <;> by_cases h3 : (len + n + 4096) * bytes ≤ 17592186044416 <;> simp [h1, h2, h3, Q2s, List.length_set]
  | _ => rfl

theorem Q6f (hp : List AObj) (K : List AV → α) (v : AV) : Q8d E hp K v = (match Q3w hp v with
  | some new => K new
  | none => E.fail) := by
 unfold Q8d Q3w
 cases v <;> try rfl
 ·rename_i p; cases p <;> try rfl
  ·simp [Ql]
  ·rename_i es rows
   simp only [Qm, Ql]
   by_cases h0 : es = 1
   ·simp [h0]
   ·have : Nat.beq es 1 = false := by rw [← Bool.not_eq_true, Nat.beq_eq]; exact h0
    simp [h0, this]
 ·rename_i es b off n
  simp only [Z7, Zn, Qm, Yf]
  cases hp[b]? with
  | none => rfl
  | some o =>
   cases o <;> try rfl
   rename_i cs
   by_cases h0 : es = 1
   ·simp only [h0, if_true, Nat.beq_refl]
    cases Zx n (cs.drop off) <;> rfl
   ·have : Nat.beq es 1 = false := by rw [← Bool.not_eq_true, Nat.beq_eq]; exact h0
    simp [h0, this]
theorem V0 (tm : List AV) (hp : List AObj) (k : AV → List AObj → α) (esz bytes : Nat) (s x : Opd) : X0 E tm hp k esz bytes s x = fin E hp k (Ug hp hp.length esz bytes (Q2 tm s) (Q2 tm x)) := by
 simp only [Ug, X0, Q8, Z7, Qm, Q6q, Ql, Zn, Yf]
 cases Q2 tm x <;> try rfl
 ·rename_i v; cases v <;> try rfl
  ·rename_i b
   by_cases h0 : esz = 1
   ·simp [h0]
   ·have : Nat.beq esz 1 = false := by rw [← Bool.not_eq_true, Nat.beq_eq]; exact h0
    simp [h0, this, G3]
  ·rename_i es rows
   by_cases h0 : es = esz
   ·simp [h0]
   ·have : Nat.beq es esz = false := by rw [← Bool.not_eq_true, Nat.beq_eq]; exact h0
    simp [h0, this, G3]
 ·rename_i es b off n
  simp only []
  cases hp[b]? with
  | none => rfl
  | some o =>
   cases o <;> try rfl
   rename_i cs
   by_cases h0 : es = esz
   ·simp only [h0, if_true, Qu, Nat.beq_refl]
    cases Zx (n * esz) (cs.drop off) <;> rfl
   ·have : Nat.beq es esz = false := by rw [← Bool.not_eq_true, Nat.beq_eq]; exact h0
    simp [h0, this, G3]
theorem Vf (tm : List AV) (hp : List AObj) (k : AV → List AObj → α) (c : COp) (hc : c.isCall = false) :
  Qw E tm hp k c = fin E hp k (Qa E.glob tm hp hp.length c) := by
 cases c with
 | call f args => cases hc
 | callv f args => cases hc
 | move x => simp only [Qw, Qa, Q49, Q8]; rfl
 | pick c a b =>
  simp only [Qw, Qa, Q4b, Q8, Zg]
  cases Q2 tm c <;> try rfl
  rename_i v; cases v <;> try rfl
  rename_i b; cases b <;> rfl
 | alloc z => simp only [Qw, Qa, Q1k, Ql, Yj, Jn, Zi]
 | box x =>
  simp only [Qw, Qa, Q5i, Q8, Vg, Yj, Q37, Jn, Zi]
  cases (Q2 tm x).cells? <;> rfl
 | build z ps =>
  simp only [Qw, Qa, Q1r, Ql, Jw, Qu]
  cases Yg tm (z.map AV.p) ps <;> rfl
 | buildSlice z len esz ps =>
  simp only [Qw, Qa, Xp, Ql, Jw, Yj, Q37, Jn, Zi]
  cases Yg tm ((List.replicate len z).flatten.map AV.p) ps <;> rfl
 | load n agg x =>
  simp only [Qw, Qa, Q3m, Q8, Xe, Yf, Ze, Qu]
  cases Qy E.glob hp (Q2 tm x) with
  | none => rfl
  | some cs =>
   simp only []
   cases Zx n cs with
   | none => rfl
   | some cs => simp only []; cases sOf agg cs <;> rfl
 | store n x y =>
  simp only [Qw, Qa, Q1i, Q8, Z7, Vg, Qm, Wt, Xm]
  cases Q2 tm x <;> try rfl
  rename_i a off
  simp only []
  cases hp[a]? with
  | none => rfl
  | some o =>
   cases o <;> try rfl
   rename_i cs
   simp only []
   cases (Q2 tm y).cells? with
   | none => rfl
   | some v =>
    simp only []
    by_cases h1 : v.length = n <;> by_cases h2 : off + n ≤ cs.length <;> simp [h1, h2, fin, W8]
 | nilCheck x =>
  simp only [Qw, Qa, Vl, Q8]
  cases Q2 tm x <;> try rfl
  ·rename_i v; cases v <;> try rfl
   rename_i fn a b; cases fn <;> rfl
  ·rename_i fn a b; cases fn <;> rfl
 | ari op x y =>
  simp only [Qw, Qa, Q5u, Q8]
  cases Q2 tm x <;> try rfl
  rename_i v
  cases v <;> try rfl
  ·simp only []
   cases Q2 tm y <;> try rfl
   rename_i v
   cases v <;> try rfl
   simp only [Q6r, Qm]
   rename_i i x j y
   cases Uq op i j
   ·rfl
   ·simp only [if_true, Qu]
    cases Q6e op i x y <;> rfl
  ·simp only []
   cases Q2 tm y <;> try rfl
   rename_i v
   cases v <;> try rfl
   cases op <;> try rfl
   simp only [Qm]
   rename_i s t
   by_cases h : s.length + t.length ≤ 4611686018427387904 <;> simp [h, fin, Q6, Qo]
 | cmp op x y =>
  simp only [Qw, Qa, Q5v, Q8, Qu, E.cmp.2, E.scmp.2]
  cases Q2 tm x <;> try rfl
  rename_i v
  cases v <;> try rfl
  ·simp only []
   cases Q2 tm y <;> try rfl
   rename_i v
   cases v <;> try rfl
   rename_i i x j y
   simp only [Qm, Q73]
   cases i == j <;> rfl
  ·simp only []
   cases Q2 tm y <;> try rfl
   rename_i v
   cases v <;> rfl
 | eqB neg x y =>
  simp only [Qw, Qa, Q5o, Q8]
  cases Q2 tm x <;> try rfl
  rename_i v
  cases v <;> try rfl
  simp only []
  cases Q2 tm y <;> try rfl
  rename_i v
  cases v <;> try rfl
  cases neg <;> rfl
 | eqP neg x y =>
  simp only [Qw, Qa, Q5q, Q8]
  cases Q2 tm x <;> try rfl
  ·rename_i v
   cases v <;> try rfl
   simp only []
   cases Q2 tm y <;> try rfl
   rename_i v
   cases v <;> rfl
  ·simp only []
   cases Q2 tm y <;> try rfl
   rename_i v
   cases v <;> rfl
 | eqAgg neg kinds x y =>
  simp only [Qw, Qa, Q1z, Q8, Q3f]
  cases (Q2 tm x).aggs? <;> try rfl
  simp only []
  cases (Q2 tm y).aggs? <;> try rfl
  simp only [Q2h, Qu, Zg]
  rename_i cs ds
  cases Qe kinds cs ds <;> rfl
 | not x =>
  simp only [Qw, Qa, Q5n, Q8]; cases Q2 tm x <;> try rfl
  rename_i v; cases v <;> rfl
 | neg x =>
  simp only [Qw, Qa, Q5j, Q8]; cases Q2 tm x <;> try rfl
  rename_i v; cases v <;> rfl
 | conv i x =>
  simp only [Qw, Qa, Q4a, Q8]; cases Q2 tm x <;> try rfl
  rename_i v; cases v <;> rfl
 | bytesOf x =>
  simp only [Qw, Qa, J2, Q8]; cases Q2 tm x <;> try rfl
  rename_i v; cases v <;> try rfl
  simp only [Ql, Yj, fin, Zi]
 | strOf x =>
  simp only [Qw, Qa, Q25, Q8, Z7]
  cases Q2 tm x <;> try rfl
  ·rename_i v; cases v <;> rfl
  ·rename_i es a off len
   simp only []
   cases hp[a]? with
   | none => rfl
   | some o =>
    cases o <;> try rfl
    simp only [Zn, Yf, Q0t, Qu]
    rename_i cs
    cases Zx len (cs.drop off) with
    | none => rfl
    | some cs => simp only []; cases Q42 cs <;> rfl
 | makeFunc fn a b => simp only [Qw, Qa, Ue, Qx]; rfl
 | makeMap => simp only [Qw, Qa, J3, Yj, fin, Zi]
 | bad => rfl
 | extIx x y =>
  simp only [Qw, Qa, Q1c, Q8]
  cases Q2 tm x <;> try rfl
  rename_i v
  cases v <;> try (cases Q2 tm y <;> rfl)
  cases Q2 tm y <;> try rfl
  rename_i u
  cases u <;> try rfl
  rename_i s i c
  simp only [Qm]
  cases i == IntKind.u8 <;> rfl
 | rangeS x =>
  simp only [Qw, Qa, Gy, Q8]
  cases Q2 tm x <;> try rfl
  rename_i v
  cases v <;> try rfl
  simp only [Yj, fin, Zi]
 | nextS x =>
  simp only [Qw, Qa, Q1j, Q8, Z7]
  cases Q2 tm x <;> try rfl
  rename_i b o
  simp only []
  cases hp[b]? with
  | none => rfl
  | some ob =>
   cases ob <;> try rfl
   rename_i s pos
   simp only [Qm, Xm, Zg]
   by_cases h0 : o = 0
   ·subst h0
    by_cases hl : pos < s.length
    ·simp [hl, fin, W8, Nat.blt_eq]
    ·simp [hl, fin, Q6, Qo, Nat.blt_eq]
   ·simp [h0, fin]
 | insert kk m ke v =>
  simp only [Qw, Qa, Q0d, Q8, Z7]
  cases Q2 tm m <;> try rfl
  rename_i r
  cases Q2 tm ke
  case p kv =>
   simp only []
   cases h : hp[r]? with
   | none => rfl
   | some o =>
    cases o <;> try rfl
    rename_i es
    simp only [Wu, Qm]
    cases Zr kk kv with
    | false => rfl
    | true =>
     simp only [if_true, Bool.true_eq_false, if_false]
     cases Xj kv 0 es with
     | none => rfl
     | some r => cases r <;> simp [Xm, Zc, fin, W8]
  all_goals
   simp only []
   cases h : hp[r]? with
   | none => rfl
   | some o => cases o <;> rfl
 | lookup kk z agg ok m ke =>
  simp only [Qw, Qa, Gi, Q8, Z7]
  cases Q2 tm m
  case map r =>
   cases Q2 tm ke
   case p kv =>
    simp only []
    cases h : hp[r]? with
    | none => rfl
    | some o =>
     cases o <;> try rfl
     rename_i es
     simp only [Wu, Qm]
     cases Zr kk kv with
     | false => rfl
     | true =>
      simp only [if_true, Bool.true_eq_false, if_false]
      cases Xj kv 0 es with
      | none => rfl
      | some r =>
       cases r with
       | none =>
        simp only [Ql, Ze, Qu]
        cases sOf agg (z.map AV.p) <;> cases ok <;> rfl
       | some r => cases ok <;> rfl
   all_goals
    simp only []
    cases h : hp[r]? with
    | none => rfl
    | some o => cases o <;> rfl
  case p mv =>
   cases mv <;> try (cases Q2 tm ke <;> rfl)
   rename_i ps
   cases Q2 tm ke <;> try rfl
   rename_i kv
   simp only [Qm, Q7q]
   cases Zr kk kv with
   | false => rfl
   | true =>
    simp only [if_true, Bool.true_eq_false, if_false]
    cases Q0e kv ps with
    | none => rfl
    | some r =>
     cases r with
     | none =>
      simp only [Ql, Ze, Qu]
      cases sOf agg (z.map AV.p) <;> cases ok <;> rfl
     | some r => cases ok <;> rfl
  all_goals (cases Q2 tm ke <;> rfl)
 | makeSlice z bytes l c =>
  simp only [Qw, Qa, V2, Q8]
  cases Q2 tm l <;> try rfl
  rename_i v; cases v <;> try rfl
  simp only []
  cases Q2 tm c <;> try rfl
  rename_i v; cases v <;> try rfl
  simp only [Qm, Ql, Yj]
  rename_i l _ c
  by_cases h1 : 0 ≤ l <;> by_cases h2 : l ≤ c <;> by_cases h3 : c * bytes ≤ 1099511627776 <;> simp [h1, h2, h3, fin, Zi]
 | sliceStr x lo hi =>
  simp only [Qw, Qa, U7, Q8, Q17, G2, Qm]
  cases Q2 tm x <;> try rfl
  rename_i v; cases v <;> try rfl
  rename_i s
  simp only []
  cases Wv 0 (lo.map (Q2 tm)) <;> try rfl
  rename_i l
  simp only []
  cases Wv s.length (hi.map (Q2 tm)) <;> try rfl
  rename_i h
  by_cases h1 : l ≤ h <;> by_cases h2 : h ≤ s.length <;> simp [h1, h2, fin, Q6, Qo]
 | slice esz x lo hi =>
  simp only [Qw, Qa, Q1o, Q8, Q17, G2, Qm]
  cases Q2 tm x <;> try rfl
  ·rename_i v; cases v <;> try rfl
   rename_i es s
   simp only []
   cases Wv 0 (lo.map (Q2 tm)) <;> try rfl
   rename_i l
   simp only []
   cases Wv s.length (hi.map (Q2 tm)) <;> try rfl
   rename_i h
   by_cases h0 : es = esz <;> by_cases h1 : l ≤ h <;> by_cases h2 : h ≤ s.length <;> simp [h0, h1, h2, fin, Q6, Qo]
  ·rename_i es a off s
   simp only []
   cases Wv 0 (lo.map (Q2 tm)) <;> try rfl
   rename_i l
   simp only []
   cases Wv s (hi.map (Q2 tm)) <;> try rfl
   rename_i h
   by_cases h0 : es = esz <;> by_cases h1 : l ≤ h <;> by_cases h2 : h ≤ s <;> simp [h0, h1, h2, fin, Q6, Qo]
 | sliceArr n esz x lo hi =>
  simp only [Qw, Qa, Vx, Q8, Q17, G2, Qm, Z7]
  cases Q2 tm x <;> try rfl
  rename_i a off
  simp only []
  cases hp[a]? with
  | none => rfl
  | some o =>
   cases o <;> try rfl
   rename_i cs
   simp only []
   cases Wv 0 (lo.map (Q2 tm)) <;> try rfl
   rename_i l
   simp only []
   cases Wv n (hi.map (Q2 tm)) <;> try rfl
   rename_i h
   by_cases h0 : off + n * esz ≤ cs.length <;> by_cases h1 : l ≤ h <;> by_cases h2 : h ≤ n <;> simp [h0, h1, h2, fin, Q6, Qo]
 | fieldAddr x off => simp only [Qw, Qa, V1, Q8, Zn]; cases Q2 tm x <;> rfl
 | field x off n agg =>
  simp only [Qw, Qa, Q23, Q8, Q3f]
  cases (Q2 tm x).aggs? <;> try rfl
  simp only [Zn, Yf, Ze, Qu]
  rename_i cs
  cases Zx n (cs.drop off) with
  | none => rfl
  | some cs => simp only []; cases sOf agg cs <;> rfl
 | indexAddr esz x i =>
  simp only [Qw, Qa, V3, Q8, Qm, Q84]
  cases Q2 tm x <;> try rfl
  ·rename_i v; cases v <;> try rfl
   simp only []
   cases Q2 tm i <;> try rfl
   rename_i v; cases v <;> try rfl
   rename_i es rows _ n
   by_cases h0 : es = esz <;> cases hi : idx rows n <;> simp [h0, hi, fin, Q6, Qo]
  ·simp only []
   cases Q2 tm i <;> try rfl
   rename_i v; cases v <;> try rfl
   rename_i es a off len _ n
   by_cases h1 : 0 ≤ n <;> by_cases h2 : n < len <;> simp [h1, h2, fin, Q6, Qo]
 | indexArr len esz x i =>
  simp only [Qw, Qa, Ub, Q8, Qm]
  cases Q2 tm x <;> try rfl
  all_goals
   simp only []
   cases Q2 tm i <;> try rfl
   rename_i v; cases v <;> try rfl
   rename_i n
   by_cases h1 : 0 ≤ n <;> by_cases h2 : n < len <;> simp [h1, h2, fin, Q6, Qo]
 | indexStr x i =>
  simp only [Qw, Qa, U0, Q8, Q84]
  cases Q2 tm x <;> try rfl
  rename_i v; cases v <;> try rfl
  simp only []
  cases Q2 tm i <;> try rfl
  rename_i v; cases v <;> try rfl
  simp only [Qu]
  rename_i s _ n
  cases idx s n <;> rfl
 | extract x i =>
  simp only [Qw, Qa, J0, Q8]
  cases Q2 tm x <;> try rfl
  ·rename_i v; cases v <;> try rfl
   rename_i vs
   simp only [Qu]
   cases vs[i]? <;> rfl
  ·rename_i vs
   simp only [Qu]
   cases vs[i]? <;> rfl
 | lenStr x =>
  simp only [Qw, Qa, Q0a, Q8]
  cases Q2 tm x <;> try rfl
  rename_i v; cases v <;> rfl
 | lenSl x =>
  simp only [Qw, Qa, Q1l, Q8]
  cases Q2 tm x <;> try rfl
  rename_i v; cases v <;> rfl
 | lenMap x =>
  simp only [Qw, Qa, Gm, Q8, Z7]
  cases Q2 tm x <;> try rfl
  ·rename_i v; cases v <;> rfl
  ·rename_i r
   simp only []
   cases hp[r]? with
   | none => rfl
   | some o => cases o <;> rfl
 | append esz bytes s x => simp only [Qw, Qa]; exact V0 ..
 | appendT esz bytes s x =>
  simp only [Qw, Qa, Uy, Q8, V0, Q0p]
  cases hs : Q2 tm s <;> try rfl
  rename_i es a off len
  simp only [Z7, Qm, W4, Xm]
  cases hp[a]? with
  | none => rfl
  | some o =>
   cases o <;> try rfl
   rename_i cs
   simp only []
   by_cases h0 : off + len * esz ≤ cs.length
   ·have h1 : Nat.ble (off + len * esz) cs.length = true := by simpa using h0
    rw [h1, if_pos h0, if_pos rfl]
    rw [List.length_set]
    cases hq : Ug (hp.set a (.cells (cs.take (off + len * esz)))) hp.length esz bytes (.slice es a off len) (Q2 tm x) with
    | none => rfl
    | some q =>
     obtain ⟨v, e⟩ := q
     show k v (e.apply (hp.set a (.cells (cs.take (off + len * esz)))) (hp.set a (.cells (cs.take (off + len * esz)))).length) = k v ((e.pre a (.cells (cs.take (off + len * esz)))).apply hp hp.length)
     rw [Gn (Q13 hq), List.length_set]
   ·have h1 : Nat.ble (off + len * esz) cs.length = false := by rw [← Bool.not_eq_true, Nat.ble_eq]; exact h0
    rw [h1, if_neg h0]; rfl
 | copyB d s =>
  have hc : ∀ new, (match Q2 tm d with
    | .p .nilSlice => k (.p (.int .i64 0)) hp
    | .slice es a off len => Q0i E hp a fun
     | .cells cs => chk E (Nat.beq es 1 && (Nat.ble (off + len) cs.length && Nat.ble 1 len))
      (Q6k len new cs off fun n cs => Q4l hp a (.cells cs) fun hp => k (.p (.int .i64 n)) hp)
     | _ => E.fail
    | _ => E.fail) = fin E hp k (Q0m hp (Q2 tm d) new) := fun new => by
   simp only [Z7, Qm, Q6k, W4, Jc, Wt, Xm, Q0m]
   cases Q2 tm d <;> try rfl
   ·rename_i v; cases v <;> rfl
   ·rename_i es a off len
    simp only []
    cases hp[a]? with
    | none => rfl
    | some o =>
     cases o <;> try rfl
     rename_i cs
     simp only []
     by_cases h1 : es = 1 <;> by_cases h2 : off + len ≤ cs.length <;> by_cases h3 : 1 ≤ len <;> simp [h1, h2, h3, fin, W8] <;> omega
  simp only [Qw, Qa, Q1e, Q8, Q6f]
  cases Q3w hp (Q2 tm s) with
  | none => rfl
  | some new => exact hc new
 | max x y =>
  simp only [Qw, Qa, Q5w, Q8, Zg]
  cases Q2 tm x <;> try rfl
  rename_i v; cases v <;> try rfl
  simp only []
  cases Q2 tm y <;> try rfl
  rename_i v; cases v <;> try rfl
  simp [fin, Q6, Qo]
 | min x y =>
  simp only [Qw, Qa, Q5s, Q8, Zg]
  cases Q2 tm x <;> try rfl
  rename_i v; cases v <;> try rfl
  simp only []
  cases Q2 tm y <;> try rfl
  rename_i v; cases v <;> try rfl
  simp [fin, Q6, Qo]
end
end
end Go.Av
