/- An abstract machine for the modelled code, and what its runs say of real calls. Part of a proof of a given statement: for every input the law returns true and the arguments read as before; no condition beyond the given row. -/
import Derived.Test.YtdlmgpphppgcjaaGreatDoorAvStep
namespace Go.Av
noncomputable section
universe u
section
variable {α : Type u} (E : Env α)
def fin (E : Env α) (hp : List AObj) (k : AV → List AObj → α) : Option (AV × Eff) → α
 | some (v, e) => k v (e.apply hp hp.length)
 | none => E.fail
theorem G6 (hp : List AObj) (k : AV → List AObj → α) : fin E hp k none = E.fail := rfl
theorem Jt (hp : List AObj) (k : AV → List AObj → α) (v : AV) (e : Eff) : fin E hp k (some (v, e)) = k v (e.apply hp hp.length) := rfl
theorem Qv {β : Type} (hp : List AObj) (k : AV → List AObj → α) (o : Option β) (f : β → Option (AV × Eff)) : fin E hp k (o.bind f) = (match o with
  | some b => fin E hp k (f b)
  | none => E.fail) := by cases o <;> rfl
theorem Q3s {β : Type} (hp : List AObj) (k : AV → List AObj → α) (o : Option β) (f : β → AV × Eff) : fin E hp k (o.map f) = (match o with
  | some b => fin E hp k (some (f b))
  | none => E.fail) := by cases o <;> rfl
theorem Zi (hp : List AObj) (o : AObj) : ({ new := some o } : Eff).apply hp hp.length = hp ++ [o] := by simp [Eff.apply, plc]
theorem Xq (hp : List AObj) (n : Nat) (a : Nat) (o : AObj) : ({ set := some (a, o) } : Eff).apply hp n = hp.set a o := by simp [Eff.apply]
theorem Q2l (hp : List AObj) (a : Nat) (o o' : AObj) : ({ set := some (a, o), new := some o' } : Eff).apply hp hp.length = hp.set a o ++ [o'] := by simp [Eff.apply, plc]
theorem Qn (hp : List AObj) (n : Nat) : ({} : Eff).apply hp n = hp := rfl

theorem Q6x (hp : List AObj) (esz bytes : Nat) (s : AV) (new : List AV) (n : Nat) (k : AV → List AObj → α) :
  Q6c E hp esz bytes s new n k = fin E hp k (Jw hp hp.length esz bytes s new n) := by
 unfold Q6c Jw
 by_cases hn : n = 0
 ·subst hn
  simp only [ifB, if_true]
  cases s with
  | p v => cases v <;> rfl
  | _ => rfl
 ·have : Nat.beq n 0 = false := by cases n <;> first | rfl | simp_all
  simp only [this, ifB, hn, if_false]
  cases s with
  | p v =>
   cases v <;> (try rfl) <;>
   (by_cases h3 : (n + 4096) * bytes ≤ 17592186044416 <;> simp [Qk, Yg, h3, fin, Zi])
  | slice es a off len =>
   simp only [Z8]
   cases h : hp[a]? with
   | none => rfl
   | some o =>
    cases o <;> simp only [Qk, Zn, Zc, Xl, Yg, fin] <;> (try rfl)
    by_cases h1 : es = esz <;> rename_i cs <;> by_cases h2 : off + len * esz = cs.length <;> by_cases h3 : (len + n + 4096) * bytes ≤ 17592186044416 <;> simp [h1, h2, h3, Q2l, List.length_set]
  | _ => rfl

theorem Q6b (hp : List AObj) (K : List AV → α) (v : AV) : Q8l E hp K v = (match Q3f hp v with
  | some new => K new
  | none => E.fail) := by
 unfold Q8l Q3f
 cases v <;> try rfl
 ·rename_i p; cases p <;> try rfl
  ·simp [Qm]
  ·rename_i es rows
   simp only [Qk, Qm]
   by_cases h0 : es = 1
   ·simp [h0]
   ·have : Nat.beq es 1 = false := by rw [← Bool.not_eq_true, Nat.beq_eq]; exact h0
    simp [h0, this]
 ·rename_i es b off n
  simp only [Z8, Zn, Qk, Yc]
  cases hp[b]? with
  | none => rfl
  | some o =>
   cases o <;> try rfl
   rename_i cs
   by_cases h0 : es = 1
   ·simp only [h0, if_true, Nat.beq_refl]
    cases Zr n (cs.drop off) <;> rfl
   ·have : Nat.beq es 1 = false := by rw [← Bool.not_eq_true, Nat.beq_eq]; exact h0
    simp [h0, this]
theorem Wz (tm : List AV) (hp : List AObj) (k : AV → List AObj → α) (esz bytes : Nat) (s x : Opd) : X0 E tm hp k esz bytes s x = fin E hp k (Uh hp hp.length esz bytes (Q2 tm s) (Q2 tm x)) := by
 simp only [Uh, X0, Q8, Z8, Qk, Q6x, Qm, Zn, Yc]
 cases Q2 tm x <;> try rfl
 ·rename_i v; cases v <;> try rfl
  ·rename_i b
   by_cases h0 : esz = 1
   ·simp [h0]
   ·have : Nat.beq esz 1 = false := by rw [← Bool.not_eq_true, Nat.beq_eq]; exact h0
    simp [h0, this, G6]
  ·rename_i es rows
   by_cases h0 : es = esz
   ·simp [h0]
   ·have : Nat.beq es esz = false := by rw [← Bool.not_eq_true, Nat.beq_eq]; exact h0
    simp [h0, this, G6]
 ·rename_i es b off n
  simp only []
  cases hp[b]? with
  | none => rfl
  | some o =>
   cases o <;> try rfl
   rename_i cs
   by_cases h0 : es = esz
   ·simp only [h0, if_true, Qv, Nat.beq_refl]
    cases Zr (n * esz) (cs.drop off) <;> rfl
   ·have : Nat.beq es esz = false := by rw [← Bool.not_eq_true, Nat.beq_eq]; exact h0
    simp [h0, this, G6]
theorem Vu (tm : List AV) (hp : List AObj) (k : AV → List AObj → α) (c : COp) (hc : c.isCall = false) :
  Qu E tm hp k c = fin E hp k (Qa E.glob tm hp hp.length c) := by
 cases c with
 | call f args => cases hc
 | callv f args => cases hc
 | move x => simp only [Qu, Qa, Q4g, Q8]; rfl
 | pick c a b =>
  simp only [Qu, Qa, Q43, Q8, Zh]
  cases Q2 tm c <;> try rfl
  rename_i v; cases v <;> try rfl
  rename_i b; cases b <;> rfl
 | alloc z => simp only [Qu, Qa, Q1q, Qm, Yg, Jt, Zi]
 | box x =>
  simp only [Qu, Qa, Q5i, Q8, Vr, Yg, Q3s, Jt, Zi]
  cases (Q2 tm x).cells? <;> rfl
 | build z ps =>
  simp only [Qu, Qa, Q1o, Qm, Jc, Qv]
  cases Yi tm (z.map AV.p) ps <;> rfl
 | buildSlice z len esz ps =>
  simp only [Qu, Qa, W9, Qm, Jc, Yg, Q3s, Jt, Zi]
  cases Yi tm ((List.replicate len z).flatten.map AV.p) ps <;> rfl
 | load n agg x =>
  simp only [Qu, Qa, Q3c, Q8, Xj, Yc, Zb, Qv]
  cases Qy E.glob hp (Q2 tm x) with
  | none => rfl
  | some cs =>
   simp only []
   cases Zr n cs with
   | none => rfl
   | some cs => simp only []; cases sOf agg cs <;> rfl
 | store n x y =>
  simp only [Qu, Qa, Q1w, Q8, Z8, Vr, Qk, Wj, Xl]
  cases Q2 tm x <;> try rfl
  rename_i a off
  simp only []
  cases hp[a]? with
  | none => rfl
  | some o =>
   cases o <;> try rfl
   rename_i cs
   simp only []
   cases (Q2 tm y).cells? with
   | none => rfl
   | some v =>
    simp only []
    by_cases h1 : v.length = n <;> by_cases h2 : off + n ≤ cs.length <;> simp [h1, h2, fin, Xq]
 | nilCheck x =>
  simp only [Qu, Qa, Vk, Q8]
  cases Q2 tm x <;> try rfl
  ·rename_i v; cases v <;> try rfl
   rename_i fn a b; cases fn <;> rfl
  ·rename_i fn a b; cases fn <;> rfl
 | ari op x y =>
  simp only [Qu, Qa, Q5l, Q8]
  cases Q2 tm x <;> try rfl
  rename_i v
  cases v <;> try rfl
  ·simp only []
   cases Q2 tm y <;> try rfl
   rename_i v
   cases v <;> try rfl
   simp only [Q63, Qk]
   rename_i i x j y
   cases J6 op i j
   ·rfl
   ·simp only [if_true, Qv]
    cases Q6r op i x y <;> rfl
  ·simp only []
   cases Q2 tm y <;> try rfl
   rename_i v
   cases v <;> try rfl
   cases op <;> try rfl
   simp only [Qk]
   rename_i s t
   by_cases h : s.length + t.length ≤ 4611686018427387904 <;> simp [h, fin, Q6, Qn]
 | cmp op x y =>
  simp only [Qu, Qa, Q5j, Q8, Qv, E.cmp.2, E.scmp.2]
  cases Q2 tm x <;> try rfl
  rename_i v
  cases v <;> try rfl
  ·simp only []
   cases Q2 tm y <;> try rfl
   rename_i v
   cases v <;> try rfl
   rename_i i x j y
   simp only [Qk, Q7q]
   cases i == j <;> rfl
  ·simp only []
   cases Q2 tm y <;> try rfl
   rename_i v
   cases v <;> rfl
 | eqB neg x y =>
  simp only [Qu, Qa, Q5t, Q8]
  cases Q2 tm x <;> try rfl
  rename_i v
  cases v <;> try rfl
  simp only []
  cases Q2 tm y <;> try rfl
  rename_i v
  cases v <;> try rfl
  cases neg <;> rfl
 | eqP neg x y =>
  simp only [Qu, Qa, Q5p, Q8]
  cases Q2 tm x <;> try rfl
  ·rename_i v
   cases v <;> try rfl
   simp only []
   cases Q2 tm y <;> try rfl
   rename_i v
   cases v <;> rfl
  ·simp only []
   cases Q2 tm y <;> try rfl
   rename_i v
   cases v <;> rfl
 | eqAgg neg kinds x y =>
  simp only [Qu, Qa, Q28, Q8, Q42]
  cases (Q2 tm x).aggs? <;> try rfl
  simp only []
  cases (Q2 tm y).aggs? <;> try rfl
  simp only [Q36, Qv, Zh]
  rename_i cs ds
  cases Qd kinds cs ds <;> rfl
 | not x =>
  simp only [Qu, Qa, Q5v, Q8]; cases Q2 tm x <;> try rfl
  rename_i v; cases v <;> rfl
 | neg x =>
  simp only [Qu, Qa, Q5s, Q8]; cases Q2 tm x <;> try rfl
  rename_i v; cases v <;> rfl
 | conv i x =>
  simp only [Qu, Qa, Q4k, Q8]; cases Q2 tm x <;> try rfl
  rename_i v; cases v <;> rfl
 | bytesOf x =>
  simp only [Qu, Qa, J5, Q8]; cases Q2 tm x <;> try rfl
  rename_i v; cases v <;> try rfl
  simp only [Qm, Yg, fin, Zi]
 | strOf x =>
  simp only [Qu, Qa, Q25, Q8, Z8]
  cases Q2 tm x <;> try rfl
  ·rename_i v; cases v <;> rfl
  ·rename_i es a off len
   simp only []
   cases hp[a]? with
   | none => rfl
   | some o =>
    cases o <;> try rfl
    simp only [Zn, Yc, Q15, Qv]
    rename_i cs
    cases Zr len (cs.drop off) with
    | none => rfl
    | some cs => simp only []; cases Q3v cs <;> rfl
 | makeFunc fn a b => simp only [Qu, Qa, Vp, Qw]; rfl
 | makeMap => simp only [Qu, Qa, J4, Yg, fin, Zi]
 | bad => rfl
 | sliceZ x =>
  simp only [Qu, Qa, Q0a, Q8]
  cases Q2 tm x <;> try rfl
  rename_i v
  cases v <;> rfl
 | eqN neg x =>
  simp only [Qu, Qa, Q5m, Q8]
  cases Q2 tm x <;> try rfl
  ·rename_i v
   cases v <;> try rfl
   ·cases neg <;> rfl
   ·rename_i es rows
    simp only [Qk]
    cases rows.isEmpty <;> rfl
  ·rename_i es b off len
   simp only [Qk]
   by_cases h : 0 < len <;> simp [h, fin, Q6, Qn, Nat.blt_eq]
 | extIx x y =>
  simp only [Qu, Qa, Q1e, Q8]
  cases Q2 tm x <;> try rfl
  rename_i v
  cases v <;> try (cases Q2 tm y <;> rfl)
  cases Q2 tm y <;> try rfl
  rename_i u
  cases u <;> try rfl
  rename_i s i c
  simp only [Qk]
  cases i == IntKind.u8 <;> rfl
 | rangeS x =>
  simp only [Qu, Qa, Gx, Q8]
  cases Q2 tm x <;> try rfl
  rename_i v
  cases v <;> try rfl
  simp only [Yg, fin, Zi]
 | nextS x =>
  simp only [Qu, Qa, Q24, Q8, Z8]
  cases Q2 tm x <;> try rfl
  rename_i b o
  simp only []
  cases hp[b]? with
  | none => rfl
  | some ob =>
   cases ob <;> try rfl
   rename_i s pos
   simp only [Qk, Xl, Zh]
   by_cases h0 : o = 0
   ·subst h0
    by_cases hl : pos < s.length
    ·simp [hl, fin, Xq, Nat.blt_eq]
    ·simp [hl, fin, Q6, Qn, Nat.blt_eq]
   ·simp [h0, fin]
 | insert kk m ke v =>
  simp only [Qu, Qa, Gs, Q8, Z8]
  cases Q2 tm m <;> try rfl
  rename_i r
  cases Q2 tm ke
  case p kv =>
   simp only []
   cases h : hp[r]? with
   | none => rfl
   | some o =>
    cases o <;> try rfl
    rename_i es
    simp only [Wv, Qk]
    cases Zx kk kv with
    | false => rfl
    | true =>
     simp only [if_true, Bool.true_eq_false, if_false]
     cases Xm kv 0 es with
     | none => rfl
     | some r => cases r <;> simp [Xl, Zc, fin, Xq]
  all_goals
   simp only []
   cases h : hp[r]? with
   | none => rfl
   | some o => cases o <;> rfl
 | lookup kk z agg ok m ke =>
  simp only [Qu, Qa, Gm, Q8, Z8]
  cases Q2 tm m
  case map r =>
   cases Q2 tm ke
   case p kv =>
    simp only []
    cases h : hp[r]? with
    | none => rfl
    | some o =>
     cases o <;> try rfl
     rename_i es
     simp only [Wv, Qk]
     cases Zx kk kv with
     | false => rfl
     | true =>
      simp only [if_true, Bool.true_eq_false, if_false]
      cases Xm kv 0 es with
      | none => rfl
      | some r =>
       cases r with
       | none =>
        simp only [Qm, Zb, Qv]
        cases sOf agg (z.map AV.p) <;> cases ok <;> rfl
       | some r => cases ok <;> rfl
   all_goals
    simp only []
    cases h : hp[r]? with
    | none => rfl
    | some o => cases o <;> rfl
  case p mv =>
   cases mv <;> try (cases Q2 tm ke <;> rfl)
   rename_i ps
   cases Q2 tm ke <;> try rfl
   rename_i kv
   simp only [Qk, Q71]
   cases Zx kk kv with
   | false => rfl
   | true =>
    simp only [if_true, Bool.true_eq_false, if_false]
    cases Q04 kv ps with
    | none => rfl
    | some r =>
     cases r with
     | none =>
      simp only [Qm, Zb, Qv]
      cases sOf agg (z.map AV.p) <;> cases ok <;> rfl
     | some r => cases ok <;> rfl
  all_goals (cases Q2 tm ke <;> rfl)
 | makeSlice z bytes l c =>
  simp only [Qu, Qa, V3, Q8]
  cases Q2 tm l <;> try rfl
  rename_i v; cases v <;> try rfl
  simp only []
  cases Q2 tm c <;> try rfl
  rename_i v; cases v <;> try rfl
  simp only [Qk, Qm, Yg]
  rename_i l _ c
  by_cases h1 : 0 ≤ l <;> by_cases h2 : l ≤ c <;> by_cases h3 : c * bytes ≤ 1099511627776 <;> simp [h1, h2, h3, fin, Zi]
 | sliceStr x lo hi =>
  simp only [Qu, Qa, U2, Q8, Q14, Jn, Qk]
  cases Q2 tm x <;> try rfl
  rename_i v; cases v <;> try rfl
  rename_i s
  simp only []
  cases Wy 0 (lo.map (Q2 tm)) <;> try rfl
  rename_i l
  simp only []
  cases Wy s.length (hi.map (Q2 tm)) <;> try rfl
  rename_i h
  by_cases h1 : l ≤ h <;> by_cases h2 : h ≤ s.length <;> simp [h1, h2, fin, Q6, Qn]
 | slice esz x lo hi =>
  simp only [Qu, Qa, Q1z, Q8, Q14, Jn, Qk]
  cases Q2 tm x <;> try rfl
  ·rename_i v; cases v <;> try rfl
   rename_i es s
   simp only []
   cases Wy 0 (lo.map (Q2 tm)) <;> try rfl
   rename_i l
   simp only []
   cases Wy s.length (hi.map (Q2 tm)) <;> try rfl
   rename_i h
   by_cases h0 : es = esz <;> by_cases h1 : l ≤ h <;> by_cases h2 : h ≤ s.length <;> simp [h0, h1, h2, fin, Q6, Qn]
  ·rename_i es a off s
   simp only []
   cases Wy 0 (lo.map (Q2 tm)) <;> try rfl
   rename_i l
   simp only []
   cases Wy s (hi.map (Q2 tm)) <;> try rfl
   rename_i h
   by_cases h0 : es = esz <;> by_cases h1 : l ≤ h <;> by_cases h2 : h ≤ s <;> simp [h0, h1, h2, fin, Q6, Qn]
 | sliceArr n esz x lo hi =>
  simp only [Qu, Qa, U9, Q8, Q14, Jn, Qk, Z8]
  cases Q2 tm x <;> try rfl
  rename_i a off
  simp only []
  cases hp[a]? with
  | none => rfl
  | some o =>
   cases o <;> try rfl
   rename_i cs
   simp only []
   cases Wy 0 (lo.map (Q2 tm)) <;> try rfl
   rename_i l
   simp only []
   cases Wy n (hi.map (Q2 tm)) <;> try rfl
   rename_i h
   by_cases h0 : off + n * esz ≤ cs.length <;> by_cases h1 : l ≤ h <;> by_cases h2 : h ≤ n <;> simp [h0, h1, h2, fin, Q6, Qn]
 | fieldAddr x off => simp only [Qu, Qa, V1, Q8, Zn]; cases Q2 tm x <;> rfl
 | field x off n agg =>
  simp only [Qu, Qa, Q1s, Q8, Q42]
  cases (Q2 tm x).aggs? <;> try rfl
  simp only [Zn, Yc, Zb, Qv]
  rename_i cs
  cases Zr n (cs.drop off) with
  | none => rfl
  | some cs => simp only []; cases sOf agg cs <;> rfl
 | indexAddr esz x i =>
  simp only [Qu, Qa, V8, Q8, Qk, Q84]
  cases Q2 tm x <;> try rfl
  ·rename_i v; cases v <;> try rfl
   simp only []
   cases Q2 tm i <;> try rfl
   rename_i v; cases v <;> try rfl
   rename_i es rows _ n
   by_cases h0 : es = esz <;> cases hi : idx rows n <;> simp [h0, hi, fin, Q6, Qn]
  ·simp only []
   cases Q2 tm i <;> try rfl
   rename_i v; cases v <;> try rfl
   rename_i es a off len _ n
   by_cases h1 : 0 ≤ n <;> by_cases h2 : n < len <;> simp [h1, h2, fin, Q6, Qn]
 | indexArr len esz x i =>
  simp only [Qu, Qa, Uf, Q8, Qk]
  cases Q2 tm x <;> try rfl
  all_goals
   simp only []
   cases Q2 tm i <;> try rfl
   rename_i v; cases v <;> try rfl
   rename_i n
   by_cases h1 : 0 ≤ n <;> by_cases h2 : n < len <;> simp [h1, h2, fin, Q6, Qn]
 | indexStr x i =>
  simp only [Qu, Qa, Uc, Q8, Q84]
  cases Q2 tm x <;> try rfl
  rename_i v; cases v <;> try rfl
  simp only []
  cases Q2 tm i <;> try rfl
  rename_i v; cases v <;> try rfl
  simp only [Qv]
  rename_i s _ n
  cases idx s n <;> rfl
 | extract x i =>
  simp only [Qu, Qa, Uu, Q8]
  cases Q2 tm x <;> try rfl
  ·rename_i v; cases v <;> try rfl
   rename_i vs
   simp only [Qv]
   cases vs[i]? <;> rfl
  ·rename_i vs
   simp only [Qv]
   cases vs[i]? <;> rfl
 | lenStr x =>
  simp only [Qu, Qa, Gb, Q8]
  cases Q2 tm x <;> try rfl
  rename_i v; cases v <;> rfl
 | lenSl x =>
  simp only [Qu, Qa, Q1m, Q8]
  cases Q2 tm x <;> try rfl
  rename_i v; cases v <;> rfl
 | lenMap x =>
  simp only [Qu, Qa, Ga, Q8, Z8]
  cases Q2 tm x <;> try rfl
  ·rename_i v; cases v <;> rfl
  ·rename_i r
   simp only []
   cases hp[r]? with
   | none => rfl
   | some o => cases o <;> rfl
 | append esz bytes s x => simp only [Qu, Qa]; exact Wz ..
 | appendT esz bytes s x =>
  simp only [Qu, Qa, J1, Q8, Wz, Q0o]
  cases hs : Q2 tm s <;> try rfl
  rename_i es a off len
  simp only [Z8, Qk, Wc, Xl]
  cases hp[a]? with
  | none => rfl
  | some o =>
   cases o <;> try rfl
   rename_i cs
   simp only []
   by_cases h0 : off + len * esz ≤ cs.length
   ·have h1 : Nat.ble (off + len * esz) cs.length = true := by simpa using h0
    rw [h1, if_pos h0, if_pos rfl]
    rw [List.length_set]
    cases hq : Uh (hp.set a (.cells (cs.take (off + len * esz)))) hp.length esz bytes (.slice es a off len) (Q2 tm x) with
    | none => rfl
    | some q =>
     obtain ⟨v, e⟩ := q
     show k v (e.apply (hp.set a (.cells (cs.take (off + len * esz)))) (hp.set a (.cells (cs.take (off + len * esz)))).length) = k v ((e.pre a (.cells (cs.take (off + len * esz)))).apply hp hp.length)
     rw [Q08 (Q18 hq), List.length_set]
   ·have h1 : Nat.ble (off + len * esz) cs.length = false := by rw [← Bool.not_eq_true, Nat.ble_eq]; exact h0
    rw [h1, if_neg h0]; rfl
 | copyB d s =>
  have hc : ∀ new, (match Q2 tm d with
    | .p .nilSlice => k (.p (.int .i64 0)) hp
    | .slice es a off len => Q0j E hp a fun
     | .cells cs => chk E (Nat.beq es 1 && (Nat.ble (off + len) cs.length && Nat.ble 1 len))
      (Q6e len new cs off fun n cs => Q4n hp a (.cells cs) fun hp => k (.p (.int .i64 n)) hp)
     | _ => E.fail
    | _ => E.fail) = fin E hp k (Q0s hp (Q2 tm d) new) := fun new => by
   simp only [Z8, Qk, Q6e, Wc, Jb, Wj, Xl, Q0s]
   cases Q2 tm d <;> try rfl
   ·rename_i v; cases v <;> rfl
   ·rename_i es a off len
    simp only []
    cases hp[a]? with
    | none => rfl
    | some o =>
     cases o <;> try rfl
     rename_i cs
     simp only []
     by_cases h1 : es = 1 <;> by_cases h2 : off + len ≤ cs.length <;> by_cases h3 : 1 ≤ len <;> simp [h1, h2, h3, fin, Xq] <;> omega
  simp only [Qu, Qa, Q22, Q8, Q6b]
  cases Q3f hp (Q2 tm s) with
  | none => rfl
  | some new => exact hc new
 | max x y =>
  simp only [Qu, Qa, Q5r, Q8, Zh]
  cases Q2 tm x <;> try rfl
  rename_i v; cases v <;> try rfl
  simp only []
  cases Q2 tm y <;> try rfl
  rename_i v; cases v <;> try rfl
  simp [fin, Q6, Qn]
 | min x y =>
  simp only [Qu, Qa, Q5x, Q8, Zh]
  cases Q2 tm x <;> try rfl
  rename_i v; cases v <;> try rfl
  simp only []
  cases Q2 tm y <;> try rfl
  rename_i v; cases v <;> try rfl
  simp [fin, Q6, Qn]
end
end
end Go.Av
