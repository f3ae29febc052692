/- An abstract machine for the modelled code, and what its runs say of real calls. Part of a proof of a given statement: for every input the law returns true and the arguments read as before; no condition beyond the given row. -/
import Derived.Test.YtkemhhfbpniioaaGreatDoorAvStep
namespace Go.Av
noncomputable section
universe u
section
variable {α : Type u} (E : Env α)
def fin (E : Env α) (hp : List AObj) (k : AV → List AObj → α) : Option (AV × Eff) → α
 | some (v, e) => k v (e.apply hp hp.length)
 | none => E.fail
theorem Qct (hp : List AObj) (k : AV → List AObj → α) : fin E hp k none = E.fail := rfl
theorem Qcz (hp : List AObj) (k : AV → List AObj → α) (v : AV) (e : Eff) : fin E hp k (some (v, e)) = k v (e.apply hp hp.length) := rfl
theorem Je {β : Type} (hp : List AObj) (k : AV → List AObj → α) (o : Option β) (f : β → Option (AV × Eff)) : fin E hp k (o.bind f) = (match o with
  | some b => fin E hp k (f b)
  | none => E.fail) := by cases o <;> rfl
theorem Qk4 {β : Type} (hp : List AObj) (k : AV → List AObj → α) (o : Option β) (f : β → AV × Eff) : fin E hp k (o.map f) = (match o with
  | some b => fin E hp k (some (f b))
  | none => E.fail) := by cases o <;> rfl
theorem Q0p (hp : List AObj) (o : AObj) : ({ new := some o } : Eff).apply hp hp.length = hp ++ [o] := by simp [Eff.apply, plc]
theorem Q9r (hp : List AObj) (n : Nat) (a : Nat) (o : AObj) : ({ set := some (a, o) } : Eff).apply hp n = hp.set a o := by simp [Eff.apply]
theorem Qip (hp : List AObj) (a : Nat) (o o' : AObj) : ({ set := some (a, o), new := some o' } : Eff).apply hp hp.length = hp.set a o ++ [o'] := by simp [Eff.apply, plc]
theorem Uo (hp : List AObj) (n : Nat) : ({} : Eff).apply hp n = hp := rfl

theorem Qr2 (hp : List AObj) (esz bytes : Nat) (s : AV) (new : List AV) (n : Nat) (k : AV → List AObj → α) :
  Qsm E hp esz bytes s new n k = fin E hp k (Qd7 hp hp.length esz bytes s new n) := by
 unfold Qsm Qd7
 by_cases hn : n = 0
 ·subst hn
  simp only [ifB, if_true]
  cases s with
  | p v => cases v <;> rfl
  | _ => rfl
 ·have : Nat.beq n 0 = false := by cases n <;> first | rfl | simp_all
  simp only [this, ifB, hn, if_false]
  cases s with
  | p v =>
   cases v <;> (try rfl)
   by_cases h3 : (n + 4096) * bytes ≤ 17592186044416 <;> simp [Uc, Q3a, h3, fin, Q0p]
  | slice es a off len =>
   simp only [Gj]
   cases h : hp[a]? with
   | none => rfl
   | some o =>
    cases o <;> simp only [Uc, Jf, Jv, Q6y, Q3a, fin] <;> (try rfl)
    by_cases h1 : es = esz <;> rename_i cs <;> by_cases h2 : off + len * esz = cs.length <;> by_cases h3 : (len + n + 4096) * bytes ≤ 17592186044416 <;> simp [h1, h2, h3, Qip, List.length_set]
  | _ => rfl

theorem Qre (hp : List AObj) (K : List AV → α) (v : AV) : Qtz E hp K v = (match Qkm hp v with
  | some new => K new
  | none => E.fail) := by
 unfold Qtz Qkm
 cases v <;> try rfl
 ·rename_i p; cases p <;> try rfl
  ·simp [Vf]
  ·rename_i es rows
   simp only [Uc, Vf]
   by_cases h0 : es = 1
   ·simp [h0]
   ·have : Nat.beq es 1 = false := by rw [← Bool.not_eq_true, Nat.beq_eq]; exact h0
    simp [h0, this]
 ·rename_i es b off n
  simp only [Gj, Jf, Uc, Q05]
  cases hp[b]? with
  | none => rfl
  | some o =>
   cases o <;> try rfl
   rename_i cs
   by_cases h0 : es = 1
   ·simp only [h0, if_true, Nat.beq_refl]
    cases Gw n (cs.drop off) <;> rfl
   ·have : Nat.beq es 1 = false := by rw [← Bool.not_eq_true, Nat.beq_eq]; exact h0
    simp [h0, this]
theorem Q7q (tm : List AV) (hp : List AObj) (k : AV → List AObj → α) (esz bytes : Nat) (s x : Opd) : Q3o E tm hp k esz bytes s x = fin E hp k (Qae hp hp.length esz bytes (Q8 tm s) (Q8 tm x)) := by
 simp only [Qae, Q3o, Zj, Gj, Uc, Qr2, Vf, Jf, Q05]
 cases Q8 tm x <;> try rfl
 ·rename_i v; cases v <;> try rfl
  ·rename_i b
   by_cases h0 : esz = 1
   ·simp [h0]
   ·have : Nat.beq esz 1 = false := by rw [← Bool.not_eq_true, Nat.beq_eq]; exact h0
    simp [h0, this, Qct]
  ·rename_i es rows
   by_cases h0 : es = esz
   ·simp [h0]
   ·have : Nat.beq es esz = false := by rw [← Bool.not_eq_true, Nat.beq_eq]; exact h0
    simp [h0, this, Qct]
 ·rename_i es b off n
  simp only []
  cases hp[b]? with
  | none => rfl
  | some o =>
   cases o <;> try rfl
   rename_i cs
   by_cases h0 : es = esz
   ·simp only [h0, if_true, Je, Nat.beq_refl]
    cases Gw (n * esz) (cs.drop off) <;> rfl
   ·have : Nat.beq es esz = false := by rw [← Bool.not_eq_true, Nat.beq_eq]; exact h0
    simp [h0, this, Qct]
theorem Qa2 (tm : List AV) (hp : List AObj) (k : AV → List AObj → α) (c : COp) (hc : c.isCall = false) :
  J9 E tm hp k c = fin E hp k (Zl E.glob tm hp hp.length c) := by
 cases c with
 | call f args => cases hc
 | callv f args => cases hc
 | move x => simp only [J9, Zl, Qk1, Zj]; rfl
 | pick c a b =>
  simp only [J9, Zl, Qkr, Zj, Gz]
  cases Q8 tm c <;> try rfl
  rename_i v; cases v <;> try rfl
  rename_i b; cases b <;> rfl
 | alloc z => simp only [J9, Zl, Qgr, Vf, Q3a, Qcz, Q0p]
 | box x =>
  simp only [J9, Zl, Qq6, Zj, Qa3, Q3a, Qk4, Qcz, Q0p]
  cases (Q8 tm x).cells? <;> rfl
 | build z ps =>
  simp only [J9, Zl, Qgs, Vf, Qcb, Je]
  cases Q2x tm (z.map AV.p) ps <;> rfl
 | buildSlice z len esz ps =>
  simp only [J9, Zl, Q5g, Vf, Qcb, Q3a, Qk4, Qcz, Q0p]
  cases Q2x tm ((List.replicate len z).flatten.map AV.p) ps <;> rfl
 | load n agg x =>
  simp only [J9, Zl, Qkg, Zj, Q4x, Q05, Q0r, Je]
  cases J5 E.glob hp (Q8 tm x) with
  | none => rfl
  | some cs =>
   simp only []
   cases Gw n cs with
   | none => rfl
   | some cs => simp only []; cases sOf agg cs <;> rfl
 | store n x y =>
  simp only [J9, Zl, Qhs, Zj, Gj, Qa3, Uc, Q3v, Q6y]
  cases Q8 tm x <;> try rfl
  rename_i a off
  simp only []
  cases hp[a]? with
  | none => rfl
  | some o =>
   cases o <;> try rfl
   rename_i cs
   simp only []
   cases (Q8 tm y).cells? with
   | none => rfl
   | some v =>
    simp only []
    by_cases h1 : v.length = n <;> by_cases h2 : off + n ≤ cs.length <;> simp [h1, h2, fin, Q9r]
 | nilCheck x =>
  simp only [J9, Zl, Qa8, Zj]
  cases Q8 tm x <;> try rfl
  ·rename_i v; cases v <;> try rfl
   rename_i fn a b; cases fn <;> rfl
  ·rename_i fn a b; cases fn <;> rfl
 | ari op x y =>
  simp only [J9, Zl, Qpt, Zj]
  cases Q8 tm x <;> try rfl
  rename_i v
  cases v <;> try rfl
  ·simp only []
   cases Q8 tm y <;> try rfl
   rename_i v
   cases v <;> try rfl
   simp only [Qsg, Uc]
   rename_i i x j y
   cases Qbe op i j
   ·rfl
   ·simp only [if_true, Je]
    cases Qs7 op i x y <;> rfl
  ·simp only []
   cases Q8 tm y <;> try rfl
   rename_i v
   cases v <;> try rfl
   cases op <;> try rfl
   simp only [Uc]
   rename_i s t
   by_cases h : s.length + t.length ≤ 4611686018427387904 <;> simp [h, fin, Z9, Uo]
 | cmp op x y =>
  simp only [J9, Zl, Qpr, Zj, Je]
  cases Q8 tm x <;> try rfl
  rename_i v
  cases v <;> try rfl
  ·simp only []
   cases Q8 tm y <;> try rfl
   rename_i v
   cases v <;> try rfl
   rename_i i x j y
   simp only [Uc, Qtg]
   cases i == j <;> rfl
  ·simp only []
   cases Q8 tm y <;> try rfl
   rename_i v
   cases v <;> rfl
 | eqB neg x y =>
  simp only [J9, Zl, Qqe, Zj]
  cases Q8 tm x <;> try rfl
  rename_i v
  cases v <;> try rfl
  simp only []
  cases Q8 tm y <;> try rfl
  rename_i v
  cases v <;> try rfl
  cases neg <;> rfl
 | eqP neg x y =>
  simp only [J9, Zl, Qpy, Zj]
  cases Q8 tm x <;> try rfl
  ·rename_i v
   cases v <;> try rfl
   simp only []
   cases Q8 tm y <;> try rfl
   rename_i v
   cases v <;> rfl
  ·simp only []
   cases Q8 tm y <;> try rfl
   rename_i v
   cases v <;> rfl
 | eqAgg neg kinds x y =>
  simp only [J9, Zl, Qi1, Zj, Qke]
  cases (Q8 tm x).aggs? <;> try rfl
  simp only []
  cases (Q8 tm y).aggs? <;> try rfl
  simp only [Qjc, Je, Gz]
  rename_i cs ds
  cases Ug kinds cs ds <;> rfl
 | not x =>
  simp only [J9, Zl, Qqh, Zj]; cases Q8 tm x <;> try rfl
  rename_i v; cases v <;> rfl
 | neg x =>
  simp only [J9, Zl, Qqf, Zj]; cases Q8 tm x <;> try rfl
  rename_i v; cases v <;> rfl
 | conv i x =>
  simp only [J9, Zl, Qm4, Zj]; cases Q8 tm x <;> try rfl
  rename_i v; cases v <;> rfl
 | bytesOf x =>
  simp only [J9, Zl, Qbo, Zj]; cases Q8 tm x <;> try rfl
  rename_i v; cases v <;> try rfl
  simp only [Vf, Q3a, fin, Q0p]
 | strOf x =>
  simp only [J9, Zl, Qig, Zj, Gj]
  cases Q8 tm x <;> try rfl
  ·rename_i v; cases v <;> rfl
  ·rename_i es a off len
   simp only []
   cases hp[a]? with
   | none => rfl
   | some o =>
    cases o <;> try rfl
    simp only [Jf, Q05, Qaa, Je]
    rename_i cs
    cases Gw len (cs.drop off) with
    | none => rfl
    | some cs => simp only []; cases Qic cs <;> rfl
 | makeFunc fn a b => simp only [J9, Zl, Q93, J2]; rfl
 | makeMap => simp only [J9, Zl, Qau, Q3a, fin, Q0p]
 | insert kk m ke v =>
  simp only [J9, Zl, Qf0, Zj, Gj]
  cases Q8 tm m <;> try rfl
  rename_i r
  cases Q8 tm ke
  case p kv =>
   simp only []
   cases h : hp[r]? with
   | none => rfl
   | some o =>
    cases o <;> try rfl
    rename_i es
    simp only [Q6s, Uc]
    cases Q32 kk kv with
    | false => rfl
    | true =>
     simp only [if_true, Bool.true_eq_false, if_false]
     cases Q6u kv 0 es with
     | none => rfl
     | some r => cases r <;> simp [Q6y, Jv, fin, Q9r]
  all_goals
   simp only []
   cases h : hp[r]? with
   | none => rfl
   | some o => cases o <;> rfl
 | lookup kk z agg ok m ke =>
  simp only [J9, Zl, Qdd, Zj, Gj]
  cases Q8 tm m <;> try rfl
  rename_i r
  cases Q8 tm ke
  case p kv =>
   simp only []
   cases h : hp[r]? with
   | none => rfl
   | some o =>
    cases o <;> try rfl
    rename_i es
    simp only [Q6s, Uc]
    cases Q32 kk kv with
    | false => rfl
    | true =>
     simp only [if_true, Bool.true_eq_false, if_false]
     cases Q6u kv 0 es with
     | none => rfl
     | some r =>
      cases r with
      | none =>
       simp only [Vf, Q0r, Je]
       cases sOf agg (z.map AV.p) <;> cases ok <;> rfl
      | some r => cases ok <;> rfl
  all_goals
   simp only []
   cases h : hp[r]? with
   | none => rfl
   | some o => cases o <;> rfl
 | makeSlice z bytes l c =>
  simp only [J9, Zl, Q7j, Zj]
  cases Q8 tm l <;> try rfl
  rename_i v; cases v <;> try rfl
  simp only []
  cases Q8 tm c <;> try rfl
  rename_i v; cases v <;> try rfl
  simp only [Uc, Vf, Q3a]
  rename_i l _ c
  by_cases h1 : 0 ≤ l <;> by_cases h2 : l ≤ c <;> by_cases h3 : c * bytes ≤ 1099511627776 <;> simp [h1, h2, h3, fin, Q0p]
 | sliceStr x lo hi =>
  simp only [J9, Zl, Qa5, Zj, Qg2, Qd2, Uc]
  cases Q8 tm x <;> try rfl
  rename_i v; cases v <;> try rfl
  rename_i s
  simp only []
  cases Q7t 0 (lo.map (Q8 tm)) <;> try rfl
  rename_i l
  simp only []
  cases Q7t s.length (hi.map (Q8 tm)) <;> try rfl
  rename_i h
  by_cases h1 : l ≤ h <;> by_cases h2 : h ≤ s.length <;> simp [h1, h2, fin, Z9, Uo]
 | slice esz x lo hi =>
  simp only [J9, Zl, Qhu, Zj, Qg2, Qd2, Uc]
  cases Q8 tm x <;> try rfl
  ·rename_i v; cases v <;> try rfl
   rename_i es s
   simp only []
   cases Q7t 0 (lo.map (Q8 tm)) <;> try rfl
   rename_i l
   simp only []
   cases Q7t s.length (hi.map (Q8 tm)) <;> try rfl
   rename_i h
   by_cases h0 : es = esz <;> by_cases h1 : l ≤ h <;> by_cases h2 : h ≤ s.length <;> simp [h0, h1, h2, fin, Z9, Uo]
  ·rename_i es a off s
   simp only []
   cases Q7t 0 (lo.map (Q8 tm)) <;> try rfl
   rename_i l
   simp only []
   cases Q7t s (hi.map (Q8 tm)) <;> try rfl
   rename_i h
   by_cases h0 : es = esz <;> by_cases h1 : l ≤ h <;> by_cases h2 : h ≤ s <;> simp [h0, h1, h2, fin, Z9, Uo]
 | sliceArr n esz x lo hi =>
  simp only [J9, Zl, Q9f, Zj, Qg2, Qd2, Uc, Gj]
  cases Q8 tm x <;> try rfl
  rename_i a off
  simp only []
  cases hp[a]? with
  | none => rfl
  | some o =>
   cases o <;> try rfl
   rename_i cs
   simp only []
   cases Q7t 0 (lo.map (Q8 tm)) <;> try rfl
   rename_i l
   simp only []
   cases Q7t n (hi.map (Q8 tm)) <;> try rfl
   rename_i h
   by_cases h0 : off + n * esz ≤ cs.length <;> by_cases h1 : l ≤ h <;> by_cases h2 : h ≤ n <;> simp [h0, h1, h2, fin, Z9, Uo]
 | fieldAddr x off => simp only [J9, Zl, Q7k, Zj, Jf]; cases Q8 tm x <;> rfl
 | field x off n agg =>
  simp only [J9, Zl, Qgq, Zj, Qke]
  cases (Q8 tm x).aggs? <;> try rfl
  simp only [Jf, Q05, Q0r, Je]
  rename_i cs
  cases Gw n (cs.drop off) with
  | none => rfl
  | some cs => simp only []; cases sOf agg cs <;> rfl
 | indexAddr esz x i =>
  simp only [J9, Zl, Q7m, Zj, Uc, Qnl]
  cases Q8 tm x <;> try rfl
  ·rename_i v; cases v <;> try rfl
   simp only []
   cases Q8 tm i <;> try rfl
   rename_i v; cases v <;> try rfl
   rename_i es rows _ n
   by_cases h0 : es = esz <;> cases hi : idx rows n <;> simp [h0, hi, fin, Z9, Uo]
  ·simp only []
   cases Q8 tm i <;> try rfl
   rename_i v; cases v <;> try rfl
   rename_i es a off len _ n
   by_cases h1 : 0 ≤ n <;> by_cases h2 : n < len <;> simp [h1, h2, fin, Z9, Uo]
 | indexArr len esz x i =>
  simp only [J9, Zl, Q92, Zj, Uc]
  cases Q8 tm x <;> try rfl
  all_goals
   simp only []
   cases Q8 tm i <;> try rfl
   rename_i v; cases v <;> try rfl
   rename_i n
   by_cases h1 : 0 ≤ n <;> by_cases h2 : n < len <;> simp [h1, h2, fin, Z9, Uo]
 | indexStr x i =>
  simp only [J9, Zl, Q8q, Zj, Qnl]
  cases Q8 tm x <;> try rfl
  rename_i v; cases v <;> try rfl
  simp only []
  cases Q8 tm i <;> try rfl
  rename_i v; cases v <;> try rfl
  simp only [Je]
  rename_i s _ n
  cases idx s n <;> rfl
 | extract x i =>
  simp only [J9, Zl, Qbc, Zj]
  cases Q8 tm x <;> try rfl
  ·rename_i v; cases v <;> try rfl
   rename_i vs
   simp only [Je]
   cases vs[i]? <;> rfl
  ·rename_i vs
   simp only [Je]
   cases vs[i]? <;> rfl
 | lenStr x =>
  simp only [J9, Zl, Qdr, Zj]
  cases Q8 tm x <;> try rfl
  rename_i v; cases v <;> rfl
 | lenSl x =>
  simp only [J9, Zl, Qhb, Zj]
  cases Q8 tm x <;> try rfl
  rename_i v; cases v <;> rfl
 | lenMap x =>
  simp only [J9, Zl, Qez, Zj, Gj]
  cases Q8 tm x <;> try rfl
  ·rename_i v; cases v <;> rfl
  ·rename_i r
   simp only []
   cases hp[r]? with
   | none => rfl
   | some o => cases o <;> rfl
 | append esz bytes s x => simp only [J9, Zl]; exact Q7q ..
 | appendT esz bytes s x =>
  simp only [J9, Zl, Qb9, Zj, Q7q, Qfo]
  cases hs : Q8 tm s <;> try rfl
  rename_i es a off len
  simp only [Gj, Uc, Q5x, Q6y]
  cases hp[a]? with
  | none => rfl
  | some o =>
   cases o <;> try rfl
   rename_i cs
   simp only []
   by_cases h0 : off + len * esz ≤ cs.length
   ·have h1 : Nat.ble (off + len * esz) cs.length = true := by simpa using h0
    rw [h1, if_pos h0, if_pos rfl]
    rw [List.length_set]
    cases hq : Qae (hp.set a (.cells (cs.take (off + len * esz)))) hp.length esz bytes (.slice es a off len) (Q8 tm x) with
    | none => rfl
    | some q =>
     obtain ⟨v, e⟩ := q
     show k v (e.apply (hp.set a (.cells (cs.take (off + len * esz)))) (hp.set a (.cells (cs.take (off + len * esz)))).length) = k v ((e.pre a (.cells (cs.take (off + len * esz)))).apply hp hp.length)
     rw [Qdb (Qgg hq), List.length_set]
   ·have h1 : Nat.ble (off + len * esz) cs.length = false := by rw [← Bool.not_eq_true, Nat.ble_eq]; exact h0
    rw [h1, if_neg h0]; rfl
 | copyB d s =>
  have hc : ∀ new, (match Q8 tm d with
    | .p .nilSlice => k (.p (.int .i64 0)) hp
    | .slice es a off len => Qgf E hp a fun
     | .cells cs => chk E (Nat.beq es 1 && (Nat.ble (off + len) cs.length && Nat.ble 1 len))
      (Qc5 len new cs off fun n cs => Qog hp a (.cells cs) fun hp => k (.p (.int .i64 n)) hp)
     | _ => E.fail
    | _ => E.fail) = fin E hp k (Qfk hp (Q8 tm d) new) := fun new => by
   simp only [Gj, Uc, Qc5, Q5x, Qco, Q3v, Q6y, Qfk]
   cases Q8 tm d <;> try rfl
   ·rename_i v; cases v <;> rfl
   ·rename_i es a off len
    simp only []
    cases hp[a]? with
    | none => rfl
    | some o =>
     cases o <;> try rfl
     rename_i cs
     simp only []
     by_cases h1 : es = 1 <;> by_cases h2 : off + len ≤ cs.length <;> by_cases h3 : 1 ≤ len <;> simp [h1, h2, h3, fin, Q9r] <;> omega
  simp only [J9, Zl, Qia, Zj, Qre]
  cases Qkm hp (Q8 tm s) with
  | none => rfl
  | some new => exact hc new
 | max x y =>
  simp only [J9, Zl, Qqj, Zj, Gz]
  cases Q8 tm x <;> try rfl
  rename_i v; cases v <;> try rfl
  simp only []
  cases Q8 tm y <;> try rfl
  rename_i v; cases v <;> try rfl
  simp [fin, Z9, Uo]
 | min x y =>
  simp only [J9, Zl, Qqd, Zj, Gz]
  cases Q8 tm x <;> try rfl
  rename_i v; cases v <;> try rfl
  simp only []
  cases Q8 tm y <;> try rfl
  rename_i v; cases v <;> try rfl
  simp [fin, Z9, Uo]
end
end
end Go.Av
