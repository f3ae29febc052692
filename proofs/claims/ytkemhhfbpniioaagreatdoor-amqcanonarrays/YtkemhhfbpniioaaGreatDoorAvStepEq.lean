/- An abstract machine for the modelled code, and what its runs say of real calls. Part of a proof of a given statement: for every input the law returns true and the arguments read as before; no condition beyond the given row. -/
import Derived.Test.YtkemhhfbpniioaaGreatDoorAvStep
namespace Go.Av
noncomputable section
universe u
section
variable {α : Type u} (E : Env α)
def fin (E : Env α) (hp : List AObj) (k : AV → List AObj → α) : Option (AV × Eff) → α
 | some (v, e) => k v (e.apply hp hp.length)
 | none => E.fail
theorem Qbw (hp : List AObj) (k : AV → List AObj → α) : fin E hp k none = E.fail := rfl
theorem Qbu (hp : List AObj) (k : AV → List AObj → α) (v : AV) (e : Eff) : fin E hp k (some (v, e)) = k v (e.apply hp hp.length) := rfl
theorem Un {β : Type} (hp : List AObj) (k : AV → List AObj → α) (o : Option β) (f : β → Option (AV × Eff)) : fin E hp k (o.bind f) = (match o with
  | some b => fin E hp k (f b)
  | none => E.fail) := by cases o <;> rfl
theorem Qlv {β : Type} (hp : List AObj) (k : AV → List AObj → α) (o : Option β) (f : β → AV × Eff) : fin E hp k (o.map f) = (match o with
  | some b => fin E hp k (some (f b))
  | none => E.fail) := by cases o <;> rfl
theorem Gk (hp : List AObj) (o : AObj) : ({ new := some o } : Eff).apply hp hp.length = hp ++ [o] := by simp [Eff.apply, plc]
theorem Q85 (hp : List AObj) (n : Nat) (a : Nat) (o : AObj) : ({ set := some (a, o) } : Eff).apply hp n = hp.set a o := by simp [Eff.apply]
theorem Qi4 (hp : List AObj) (a : Nat) (o o' : AObj) : ({ set := some (a, o), new := some o' } : Eff).apply hp hp.length = hp.set a o ++ [o'] := by simp [Eff.apply, plc]
theorem Vx (hp : List AObj) (n : Nat) : ({} : Eff).apply hp n = hp := rfl

theorem Qqt (hp : List AObj) (esz bytes : Nat) (s : AV) (new : List AV) (n : Nat) (k : AV → List AObj → α) :
  Qr3 E hp esz bytes s new n k = fin E hp k (Qc4 hp hp.length esz bytes s new n) := by
 unfold Qr3 Qc4
 by_cases hn : n = 0
 ·subst hn
  simp only [ifB, if_true]
  cases s with
  | p v => cases v <;> rfl
  | _ => rfl
 ·have : Nat.beq n 0 = false := by cases n <;> first | rfl | simp_all
  simp only [this, ifB, hn, if_false]
  cases s with
  | p v =>
   cases v <;> (try rfl)
   by_cases h3 : (n + 4096) * bytes ≤ 17592186044416 <;> simp [Vs, Q2x, h3, fin, Gk]
  | slice es a off len =>
   simp only [Jn]
   cases h : hp[a]? with
   | none => rfl
   | some o =>
    cases o <;> simp only [Vs, Um, Jb, Q5o, Q2x, fin] <;> (try rfl)
    by_cases h1 : es = esz <;> rename_i cs <;> by_cases h2 : off + len * esz = cs.length <;> by_cases h3 : (len + n + 4096) * bytes ≤ 17592186044416 <;> simp [h1, h2, h3, Qi4, List.length_set]
  | _ => rfl

theorem Qqf (hp : List AObj) (K : List AV → α) (v : AV) : Qsw E hp K v = (match Qks hp v with
  | some new => K new
  | none => E.fail) := by
 unfold Qsw Qks
 cases v <;> try rfl
 ·rename_i p; cases p <;> try rfl
  ·simp [Ww]
  ·rename_i es rows
   simp only [Vs, Ww]
   by_cases h0 : es = 1
   ·simp [h0]
   ·have : Nat.beq es 1 = false := by rw [← Bool.not_eq_true, Nat.beq_eq]; exact h0
    simp [h0, this]
 ·rename_i es b off n
  simp only [Jn, Um, Vs, Gb]
  cases hp[b]? with
  | none => rfl
  | some o =>
   cases o <;> try rfl
   rename_i cs
   by_cases h0 : es = 1
   ·simp only [h0, if_true, Nat.beq_refl]
    cases G0 n (cs.drop off) <;> rfl
   ·have : Nat.beq es 1 = false := by rw [← Bool.not_eq_true, Nat.beq_eq]; exact h0
    simp [h0, this]
theorem Q6i (tm : List AV) (hp : List AObj) (k : AV → List AObj → α) (esz bytes : Nat) (s x : Opd) : Q2t E tm hp k esz bytes s x = fin E hp k (Q93 hp hp.length esz bytes (Q5 tm s) (Q5 tm x)) := by
 simp only [Q93, Q2t, Z4, Jn, Vs, Qqt, Ww, Um, Gb]
 cases Q5 tm x <;> try rfl
 ·rename_i v; cases v <;> try rfl
  ·rename_i b
   by_cases h0 : esz = 1
   ·simp [h0]
   ·have : Nat.beq esz 1 = false := by rw [← Bool.not_eq_true, Nat.beq_eq]; exact h0
    simp [h0, this, Qbw]
  ·rename_i es rows
   by_cases h0 : es = esz
   ·simp [h0]
   ·have : Nat.beq es esz = false := by rw [← Bool.not_eq_true, Nat.beq_eq]; exact h0
    simp [h0, this, Qbw]
 ·rename_i es b off n
  simp only []
  cases hp[b]? with
  | none => rfl
  | some o =>
   cases o <;> try rfl
   rename_i cs
   by_cases h0 : es = esz
   ·simp only [h0, if_true, Un, Nat.beq_refl]
    cases G0 (n * esz) (cs.drop off) <;> rfl
   ·have : Nat.beq es esz = false := by rw [← Bool.not_eq_true, Nat.beq_eq]; exact h0
    simp [h0, this, Qbw]
theorem Q8w (tm : List AV) (hp : List AObj) (k : AV → List AObj → α) (c : COp) (hc : c.isCall = false) :
  Uh E tm hp k c = fin E hp k (Z7 E.glob tm hp hp.length c) := by
 cases c with
 | call f args => cases hc
 | callv f args => cases hc
 | move x => simp only [Uh, Z7, Qky, Z4]; rfl
 | pick c a b =>
  simp only [Uh, Z7, Qj3, Z4, G5]
  cases Q5 tm c <;> try rfl
  rename_i v; cases v <;> try rfl
  rename_i b; cases b <;> rfl
 | alloc z => simp only [Uh, Z7, Qgl, Ww, Q2x, Qbu, Gk]
 | box x =>
  simp only [Uh, Z7, Qou, Z4, Q84, Q2x, Qlv, Qbu, Gk]
  cases (Q5 tm x).cells? <;> rfl
 | build z ps =>
  simp only [Uh, Z7, Qfm, Ww, Qbk, Un]
  cases Q1v tm (z.map AV.p) ps <;> rfl
 | buildSlice z len esz ps =>
  simp only [Uh, Z7, Q5a, Ww, Qbk, Q2x, Qlv, Qbu, Gk]
  cases Q1v tm ((List.replicate len z).flatten.map AV.p) ps <;> rfl
 | load n agg x =>
  simp only [Uh, Z7, Qk8, Z4, Q4c, Gb, Gr, Un]
  cases Ud E.glob hp (Q5 tm x) with
  | none => rfl
  | some cs =>
   simp only []
   cases G0 n cs with
   | none => rfl
   | some cs => simp only []; cases sOf agg cs <;> rfl
 | store n x y =>
  simp only [Uh, Z7, Qha, Z4, Jn, Q84, Vs, Q3b, Q5o]
  cases Q5 tm x <;> try rfl
  rename_i a off
  simp only []
  cases hp[a]? with
  | none => rfl
  | some o =>
   cases o <;> try rfl
   rename_i cs
   simp only []
   cases (Q5 tm y).cells? with
   | none => rfl
   | some v =>
    simp only []
    by_cases h1 : v.length = n <;> by_cases h2 : off + n ≤ cs.length <;> simp [h1, h2, fin, Q85]
 | nilCheck x =>
  simp only [Uh, Z7, Q8f, Z4]
  cases Q5 tm x <;> try rfl
  ·rename_i v; cases v <;> try rfl
   rename_i fn a b; cases fn <;> rfl
  ·rename_i fn a b; cases fn <;> rfl
 | ari op x y =>
  simp only [Uh, Z7, Qoe, Z4]
  cases Q5 tm x <;> try rfl
  rename_i v
  cases v <;> try rfl
  ·simp only []
   cases Q5 tm y <;> try rfl
   rename_i v
   cases v <;> try rfl
   simp only [Qp8, Vs]
   rename_i i x j y
   cases Qad op i j
   ·rfl
   ·simp only [if_true, Un]
    cases Qpw op i x y <;> rfl
  ·simp only []
   cases Q5 tm y <;> try rfl
   rename_i v
   cases v <;> try rfl
   cases op <;> try rfl
   simp only [Vs]
   rename_i s t
   by_cases h : s.length + t.length ≤ 4611686018427387904 <;> simp [h, fin, Qy, Vx]
 | cmp op x y =>
  simp only [Uh, Z7, Qoz, Z4, Un]
  cases Q5 tm x <;> try rfl
  rename_i v
  cases v <;> try rfl
  ·simp only []
   cases Q5 tm y <;> try rfl
   rename_i v
   cases v <;> try rfl
   rename_i i x j y
   simp only [Vs, Qs9]
   cases i == j <;> rfl
  ·simp only []
   cases Q5 tm y <;> try rfl
   rename_i v
   cases v <;> rfl
 | eqB neg x y =>
  simp only [Uh, Z7, Qoi, Z4]
  cases Q5 tm x <;> try rfl
  rename_i v
  cases v <;> try rfl
  simp only []
  cases Q5 tm y <;> try rfl
  rename_i v
  cases v <;> try rfl
  cases neg <;> rfl
 | eqP neg x y =>
  simp only [Uh, Z7, Qot, Z4]
  cases Q5 tm x <;> try rfl
  ·rename_i v
   cases v <;> try rfl
   simp only []
   cases Q5 tm y <;> try rfl
   rename_i v
   cases v <;> rfl
  ·simp only []
   cases Q5 tm y <;> try rfl
   rename_i v
   cases v <;> rfl
 | eqAgg neg kinds x y =>
  simp only [Uh, Z7, Qgz, Z4, Qka]
  cases (Q5 tm x).aggs? <;> try rfl
  simp only []
  cases (Q5 tm y).aggs? <;> try rfl
  simp only [Qhl, Un, G5]
  rename_i cs ds
  cases Vt kinds cs ds <;> rfl
 | not x =>
  simp only [Uh, Z7, Qon, Z4]; cases Q5 tm x <;> try rfl
  rename_i v; cases v <;> rfl
 | neg x =>
  simp only [Uh, Z7, Qo9, Z4]; cases Q5 tm x <;> try rfl
  rename_i v; cases v <;> rfl
 | conv i x =>
  simp only [Uh, Z7, Ql3, Z4]; cases Q5 tm x <;> try rfl
  rename_i v; cases v <;> rfl
 | bytesOf x =>
  simp only [Uh, Z7, Q9l, Z4]; cases Q5 tm x <;> try rfl
  rename_i v; cases v <;> try rfl
  simp only [Ww, Q2x, fin, Gk]
 | strOf x =>
  simp only [Uh, Z7, Qgm, Z4, Jn]
  cases Q5 tm x <;> try rfl
  ·rename_i v; cases v <;> rfl
  ·rename_i es a off len
   simp only []
   cases hp[a]? with
   | none => rfl
   | some o =>
    cases o <;> try rfl
    simp only [Um, Gb, Q87, Un]
    rename_i cs
    cases G0 len (cs.drop off) with
    | none => rfl
    | some cs => simp only []; cases Qgh cs <;> rfl
 | makeFunc fn a b => simp only [Uh, Z7, Q7f, Ub]; rfl
 | makeMap => simp only [Uh, Z7, Qah, Q2x, fin, Gk]
 | insert kk m ke v =>
  simp only [Uh, Z7, Qcp, Z4, Jn]
  cases Q5 tm m <;> try rfl
  rename_i r
  cases Q5 tm ke
  case p kv =>
   simp only []
   cases h : hp[r]? with
   | none => rfl
   | some o =>
    cases o <;> try rfl
    rename_i es
    simp only [Q5x, Vs]
    cases Q2c kk kv with
    | false => rfl
    | true =>
     simp only [if_true, Bool.true_eq_false, if_false]
     cases Q68 kv 0 es with
     | none => rfl
     | some r => cases r <;> simp [Q5o, Jb, fin, Q85]
  all_goals
   simp only []
   cases h : hp[r]? with
   | none => rfl
   | some o => cases o <;> rfl
 | lookup kk z agg ok m ke =>
  simp only [Uh, Z7, Qcl, Z4, Jn]
  cases Q5 tm m <;> try rfl
  rename_i r
  cases Q5 tm ke
  case p kv =>
   simp only []
   cases h : hp[r]? with
   | none => rfl
   | some o =>
    cases o <;> try rfl
    rename_i es
    simp only [Q5x, Vs]
    cases Q2c kk kv with
    | false => rfl
    | true =>
     simp only [if_true, Bool.true_eq_false, if_false]
     cases Q68 kv 0 es with
     | none => rfl
     | some r =>
      cases r with
      | none =>
       simp only [Ww, Gr, Un]
       cases sOf agg (z.map AV.p) <;> cases ok <;> rfl
      | some r => cases ok <;> rfl
  all_goals
   simp only []
   cases h : hp[r]? with
   | none => rfl
   | some o => cases o <;> rfl
 | makeSlice z bytes l c =>
  simp only [Uh, Z7, Q6b, Z4]
  cases Q5 tm l <;> try rfl
  rename_i v; cases v <;> try rfl
  simp only []
  cases Q5 tm c <;> try rfl
  rename_i v; cases v <;> try rfl
  simp only [Vs, Ww, Q2x]
  rename_i l _ c
  by_cases h1 : 0 ≤ l <;> by_cases h2 : l ≤ c <;> by_cases h3 : c * bytes ≤ 1099511627776 <;> simp [h1, h2, h3, fin, Gk]
 | sliceStr x lo hi =>
  simp only [Uh, Z7, Q8t, Z4, Qem, Qat, Vs]
  cases Q5 tm x <;> try rfl
  rename_i v; cases v <;> try rfl
  rename_i s
  simp only []
  cases Q6a 0 (lo.map (Q5 tm)) <;> try rfl
  rename_i l
  simp only []
  cases Q6a s.length (hi.map (Q5 tm)) <;> try rfl
  rename_i h
  by_cases h1 : l ≤ h <;> by_cases h2 : h ≤ s.length <;> simp [h1, h2, fin, Qy, Vx]
 | slice esz x lo hi =>
  simp only [Uh, Z7, Qgw, Z4, Qem, Qat, Vs]
  cases Q5 tm x <;> try rfl
  ·rename_i v; cases v <;> try rfl
   rename_i es s
   simp only []
   cases Q6a 0 (lo.map (Q5 tm)) <;> try rfl
   rename_i l
   simp only []
   cases Q6a s.length (hi.map (Q5 tm)) <;> try rfl
   rename_i h
   by_cases h0 : es = esz <;> by_cases h1 : l ≤ h <;> by_cases h2 : h ≤ s.length <;> simp [h0, h1, h2, fin, Qy, Vx]
  ·rename_i es a off s
   simp only []
   cases Q6a 0 (lo.map (Q5 tm)) <;> try rfl
   rename_i l
   simp only []
   cases Q6a s (hi.map (Q5 tm)) <;> try rfl
   rename_i h
   by_cases h0 : es = esz <;> by_cases h1 : l ≤ h <;> by_cases h2 : h ≤ s <;> simp [h0, h1, h2, fin, Qy, Vx]
 | sliceArr n esz x lo hi =>
  simp only [Uh, Z7, Q7i, Z4, Qem, Qat, Vs, Jn]
  cases Q5 tm x <;> try rfl
  rename_i a off
  simp only []
  cases hp[a]? with
  | none => rfl
  | some o =>
   cases o <;> try rfl
   rename_i cs
   simp only []
   cases Q6a 0 (lo.map (Q5 tm)) <;> try rfl
   rename_i l
   simp only []
   cases Q6a n (hi.map (Q5 tm)) <;> try rfl
   rename_i h
   by_cases h0 : off + n * esz ≤ cs.length <;> by_cases h1 : l ≤ h <;> by_cases h2 : h ≤ n <;> simp [h0, h1, h2, fin, Qy, Vx]
 | fieldAddr x off => simp only [Uh, Z7, Q6o, Z4, Um]; cases Q5 tm x <;> rfl
 | field x off n agg =>
  simp only [Uh, Z7, Qgb, Z4, Qka]
  cases (Q5 tm x).aggs? <;> try rfl
  simp only [Um, Gb, Gr, Un]
  rename_i cs
  cases G0 n (cs.drop off) with
  | none => rfl
  | some cs => simp only []; cases sOf agg cs <;> rfl
 | indexAddr esz x i =>
  simp only [Uh, Z7, Q6j, Z4, Vs, Qm2]
  cases Q5 tm x <;> try rfl
  ·rename_i v; cases v <;> try rfl
   simp only []
   cases Q5 tm i <;> try rfl
   rename_i v; cases v <;> try rfl
   rename_i es rows _ n
   by_cases h0 : es = esz <;> cases hi : idx rows n <;> simp [h0, hi, fin, Qy, Vx]
  ·simp only []
   cases Q5 tm i <;> try rfl
   rename_i v; cases v <;> try rfl
   rename_i es a off len _ n
   by_cases h1 : 0 ≤ n <;> by_cases h2 : n < len <;> simp [h1, h2, fin, Qy, Vx]
 | indexArr len esz x i =>
  simp only [Uh, Z7, Q8j, Z4, Vs]
  cases Q5 tm x <;> try rfl
  all_goals
   simp only []
   cases Q5 tm i <;> try rfl
   rename_i v; cases v <;> try rfl
   rename_i n
   by_cases h1 : 0 ≤ n <;> by_cases h2 : n < len <;> simp [h1, h2, fin, Qy, Vx]
 | indexStr x i =>
  simp only [Uh, Z7, Q78, Z4, Qm2]
  cases Q5 tm x <;> try rfl
  rename_i v; cases v <;> try rfl
  simp only []
  cases Q5 tm i <;> try rfl
  rename_i v; cases v <;> try rfl
  simp only [Un]
  rename_i s _ n
  cases idx s n <;> rfl
 | extract x i =>
  simp only [Uh, Z7, Q9u, Z4]
  cases Q5 tm x <;> try rfl
  ·rename_i v; cases v <;> try rfl
   rename_i vs
   simp only [Un]
   cases vs[i]? <;> rfl
  ·rename_i vs
   simp only [Un]
   cases vs[i]? <;> rfl
 | lenStr x =>
  simp only [Uh, Z7, Qdd, Z4]
  cases Q5 tm x <;> try rfl
  rename_i v; cases v <;> rfl
 | lenSl x =>
  simp only [Uh, Z7, Qfs, Z4]
  cases Q5 tm x <;> try rfl
  rename_i v; cases v <;> rfl
 | lenMap x =>
  simp only [Uh, Z7, Qc5, Z4, Jn]
  cases Q5 tm x <;> try rfl
  ·rename_i v; cases v <;> rfl
  ·rename_i r
   simp only []
   cases hp[r]? with
   | none => rfl
   | some o => cases o <;> rfl
 | append esz bytes s x => simp only [Uh, Z7]; exact Q6i ..
 | appendT esz bytes s x =>
  simp only [Uh, Z7, Q9q, Z4, Q6i, Qes]
  cases hs : Q5 tm s <;> try rfl
  rename_i es a off len
  simp only [Jn, Vs, Q52, Q5o]
  cases hp[a]? with
  | none => rfl
  | some o =>
   cases o <;> try rfl
   rename_i cs
   simp only []
   by_cases h0 : off + len * esz ≤ cs.length
   ·have h1 : Nat.ble (off + len * esz) cs.length = true := by simpa using h0
    rw [h1, if_pos h0, if_pos rfl]
    rw [List.length_set]
    cases hq : Q93 (hp.set a (.cells (cs.take (off + len * esz)))) hp.length esz bytes (.slice es a off len) (Q5 tm x) with
    | none => rfl
    | some q =>
     obtain ⟨v, e⟩ := q
     show k v (e.apply (hp.set a (.cells (cs.take (off + len * esz)))) (hp.set a (.cells (cs.take (off + len * esz)))).length) = k v ((e.pre a (.cells (cs.take (off + len * esz)))).apply hp hp.length)
     rw [Qce (Qee hq), List.length_set]
   ·have h1 : Nat.ble (off + len * esz) cs.length = false := by rw [← Bool.not_eq_true, Nat.ble_eq]; exact h0
    rw [h1, if_neg h0]; rfl
 | copyB d s =>
  have hc : ∀ new, (match Q5 tm d with
    | .p .nilSlice => k (.p (.int .i64 0)) hp
    | .slice es a off len => Qfb E hp a fun
     | .cells cs => chk E (Nat.beq es 1 && (Nat.ble (off + len) cs.length && Nat.ble 1 len))
      (Qin len new cs off fun n cs => Qn4 hp a (.cells cs) fun hp => k (.p (.int .i64 n)) hp)
     | _ => E.fail
    | _ => E.fail) = fin E hp k (Qeq hp (Q5 tm d) new) := fun new => by
   simp only [Jn, Vs, Qin, Q52, Qbr, Q3b, Q5o, Qeq]
   cases Q5 tm d <;> try rfl
   ·rename_i v; cases v <;> rfl
   ·rename_i es a off len
    simp only []
    cases hp[a]? with
    | none => rfl
    | some o =>
     cases o <;> try rfl
     rename_i cs
     simp only []
     by_cases h1 : es = 1 <;> by_cases h2 : off + len ≤ cs.length <;> by_cases h3 : 1 ≤ len <;> simp [h1, h2, h3, fin, Q85] <;> omega
  simp only [Uh, Z7, Qfr, Z4, Qqf]
  cases Qks hp (Q5 tm s) with
  | none => rfl
  | some new => exact hc new
 | max x y =>
  simp only [Uh, Z7, Qoo, Z4, G5]
  cases Q5 tm x <;> try rfl
  rename_i v; cases v <;> try rfl
  simp only []
  cases Q5 tm y <;> try rfl
  rename_i v; cases v <;> try rfl
  simp [fin, Qy, Vx]
 | min x y =>
  simp only [Uh, Z7, Qol, Z4, G5]
  cases Q5 tm x <;> try rfl
  rename_i v; cases v <;> try rfl
  simp only []
  cases Q5 tm y <;> try rfl
  rename_i v; cases v <;> try rfl
  simp [fin, Qy, Vx]
end
end
end Go.Av
