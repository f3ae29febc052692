/- An abstract machine for the modelled code, and what its runs say of real calls. Part of a proof of a given statement: for every input the law returns true and the arguments read as before; no condition beyond the given row. -/
import Derived.Test.YtkemhhfbpniioaaGreatDoorAvStep
namespace Go.Av
noncomputable section
universe u
section
variable {α : Type u} (E : Env α)
def fin (E : Env α) (hp : List AObj) (k : AV → List AObj → α) : Option (AV × Eff) → α
 | some (v, e) => k v (e.apply hp hp.length)
 | none => E.fail
theorem Qcw (hp : List AObj) (k : AV → List AObj → α) : fin E hp k none = E.fail := rfl
theorem Qc8 (hp : List AObj) (k : AV → List AObj → α) (v : AV) (e : Eff) : fin E hp k (some (v, e)) = k v (e.apply hp hp.length) := rfl
theorem Jb {β : Type} (hp : List AObj) (k : AV → List AObj → α) (o : Option β) (f : β → Option (AV × Eff)) : fin E hp k (o.bind f) = (match o with
  | some b => fin E hp k (f b)
  | none => E.fail) := by cases o <;> rfl
theorem Qju {β : Type} (hp : List AObj) (k : AV → List AObj → α) (o : Option β) (f : β → AV × Eff) : fin E hp k (o.map f) = (match o with
  | some b => fin E hp k (some (f b))
  | none => E.fail) := by cases o <;> rfl
theorem Q0p (hp : List AObj) (o : AObj) : ({ new := some o } : Eff).apply hp hp.length = hp ++ [o] := by simp [Eff.apply, plc]
theorem Q8q (hp : List AObj) (n : Nat) (a : Nat) (o : AObj) : ({ set := some (a, o) } : Eff).apply hp n = hp.set a o := by simp [Eff.apply]
theorem Qj0 (hp : List AObj) (a : Nat) (o o' : AObj) : ({ set := some (a, o), new := some o' } : Eff).apply hp hp.length = hp.set a o ++ [o'] := by simp [Eff.apply, plc]
theorem Ue (hp : List AObj) (n : Nat) : ({} : Eff).apply hp n = hp := rfl

theorem Qqw (hp : List AObj) (esz bytes : Nat) (s : AV) (new : List AV) (n : Nat) (k : AV → List AObj → α) :
  Qrl E hp esz bytes s new n k = fin E hp k (Qd1 hp hp.length esz bytes s new n) := by
 unfold Qrl Qd1
 by_cases hn : n = 0
 ·subst hn
  simp only [ifB, if_true]
  cases s with
  | p v => cases v <;> rfl
  | _ => rfl
 ·have : Nat.beq n 0 = false := by cases n <;> first | rfl | simp_all
  simp only [this, ifB, hn, if_false]
  cases s with
  | p v =>
   cases v <;> (try rfl)
   by_cases h3 : (n + 4096) * bytes ≤ 17592186044416 <;> simp [U0, Q3w, h3, fin, Q0p]
  | slice es a off len =>
   simp only [Gc]
   cases h : hp[a]? with
   | none => rfl
   | some o =>
    cases o <;> simp only [U0, Jc, Jw, Q6i, Q3w, fin] <;> (try rfl)
    by_cases h1 : es = esz <;> rename_i cs <;> by_cases h2 : off + len * esz = cs.length <;> by_cases h3 : (len + n + 4096) * bytes ≤ 17592186044416 <;> simp [h1, h2, h3, Qj0, List.length_set]
  | _ => rfl

theorem Qr9 (hp : List AObj) (K : List AV → α) (v : AV) : Qt8 E hp K v = (match Qjy hp v with
  | some new => K new
  | none => E.fail) := by
 unfold Qt8 Qjy
 cases v <;> try rfl
 ·rename_i p; cases p <;> try rfl
  ·simp [V8]
  ·rename_i es rows
   simp only [U0, V8]
   by_cases h0 : es = 1
   ·simp [h0]
   ·have : Nat.beq es 1 = false := by rw [← Bool.not_eq_true, Nat.beq_eq]; exact h0
    simp [h0, this]
 ·rename_i es b off n
  simp only [Gc, Jc, U0, Q02]
  cases hp[b]? with
  | none => rfl
  | some o =>
   cases o <;> try rfl
   rename_i cs
   by_cases h0 : es = 1
   ·simp only [h0, if_true, Nat.beq_refl]
    cases Gn n (cs.drop off) <;> rfl
   ·have : Nat.beq es 1 = false := by rw [← Bool.not_eq_true, Nat.beq_eq]; exact h0
    simp [h0, this]
theorem Q7m (tm : List AV) (hp : List AObj) (k : AV → List AObj → α) (esz bytes : Nat) (s x : Opd) : Q3n E tm hp k esz bytes s x = fin E hp k (Q9z hp hp.length esz bytes (Q5 tm s) (Q5 tm x)) := by
 simp only [Q9z, Q3n, Z2, Gc, U0, Qqw, V8, Jc, Q02]
 cases Q5 tm x <;> try rfl
 ·rename_i v; cases v <;> try rfl
  ·rename_i b
   by_cases h0 : esz = 1
   ·simp [h0]
   ·have : Nat.beq esz 1 = false := by rw [← Bool.not_eq_true, Nat.beq_eq]; exact h0
    simp [h0, this, Qcw]
  ·rename_i es rows
   by_cases h0 : es = esz
   ·simp [h0]
   ·have : Nat.beq es esz = false := by rw [← Bool.not_eq_true, Nat.beq_eq]; exact h0
    simp [h0, this, Qcw]
 ·rename_i es b off n
  simp only []
  cases hp[b]? with
  | none => rfl
  | some o =>
   cases o <;> try rfl
   rename_i cs
   by_cases h0 : es = esz
   ·simp only [h0, if_true, Jb, Nat.beq_refl]
    cases Gn (n * esz) (cs.drop off) <;> rfl
   ·have : Nat.beq es esz = false := by rw [← Bool.not_eq_true, Nat.beq_eq]; exact h0
    simp [h0, this, Qcw]
theorem Q92 (tm : List AV) (hp : List AObj) (k : AV → List AObj → α) (c : COp) (hc : c.isCall = false) :
  J6 E tm hp k c = fin E hp k (Z4 E.glob tm hp hp.length c) := by
 cases c with
 | call f args => cases hc
 | callv f args => cases hc
 | move x => simp only [J6, Z4, Qkm, Z2]; rfl
 | pick c a b =>
  simp only [J6, Z4, Qkb, Z2, Gw]
  cases Q5 tm c <;> try rfl
  rename_i v; cases v <;> try rfl
  rename_i b; cases b <;> rfl
 | alloc z => simp only [J6, Z4, Qht, V8, Q3w, Qc8, Q0p]
 | box x =>
  simp only [J6, Z4, Qp5, Z2, Q9i, Q3w, Qju, Qc8, Q0p]
  cases (Q5 tm x).cells? <;> rfl
 | build z ps =>
  simp only [J6, Z4, Qhw, V8, Qbl, Jb]
  cases Q2u tm (z.map AV.p) ps <;> rfl
 | buildSlice z len esz ps =>
  simp only [J6, Z4, Q5w, V8, Qbl, Q3w, Qju, Qc8, Q0p]
  cases Q2u tm ((List.replicate len z).flatten.map AV.p) ps <;> rfl
 | load n agg x =>
  simp only [J6, Z4, Qm8, Z2, Q4z, Q02, Q0l, Jb]
  cases J0 E.glob hp (Q5 tm x) with
  | none => rfl
  | some cs =>
   simp only []
   cases Gn n cs with
   | none => rfl
   | some cs => simp only []; cases sOf agg cs <;> rfl
 | store n x y =>
  simp only [J6, Z4, Qgy, Z2, Gc, Q9i, U0, Q1j, Q6i]
  cases Q5 tm x <;> try rfl
  rename_i a off
  simp only []
  cases hp[a]? with
  | none => rfl
  | some o =>
   cases o <;> try rfl
   rename_i cs
   simp only []
   cases (Q5 tm y).cells? with
   | none => rfl
   | some v =>
    simp only []
    by_cases h1 : v.length = n <;> by_cases h2 : off + n ≤ cs.length <;> simp [h1, h2, fin, Q8q]
 | nilCheck x =>
  simp only [J6, Z4, Q9f, Z2]
  cases Q5 tm x <;> try rfl
  ·rename_i v; cases v <;> try rfl
   rename_i fn a b; cases fn <;> rfl
  ·rename_i fn a b; cases fn <;> rfl
 | ari op x y =>
  simp only [J6, Z4, Qov, Z2]
  cases Q5 tm x <;> try rfl
  rename_i v
  cases v <;> try rfl
  ·simp only []
   cases Q5 tm y <;> try rfl
   rename_i v
   cases v <;> try rfl
   simp only [Qqq, U0]
   rename_i i x j y
   cases Qb5 op i j
   ·rfl
   ·simp only [if_true, Jb]
    cases Qq5 op i x y <;> rfl
  ·simp only []
   cases Q5 tm y <;> try rfl
   rename_i v
   cases v <;> try rfl
   cases op <;> try rfl
   simp only [U0]
   rename_i s t
   by_cases h : s.length + t.length ≤ 4611686018427387904 <;> simp [h, fin, Qt, Ue]
 | cmp op x y =>
  simp only [J6, Z4, Qpb, Z2, Jb]
  cases Q5 tm x <;> try rfl
  rename_i v
  cases v <;> try rfl
  ·simp only []
   cases Q5 tm y <;> try rfl
   rename_i v
   cases v <;> try rfl
   rename_i i x j y
   simp only [U0, Qrm]
   cases i == j <;> rfl
  ·simp only []
   cases Q5 tm y <;> try rfl
   rename_i v
   cases v <;> rfl
 | eqB neg x y =>
  simp only [J6, Z4, Qor, Z2]
  cases Q5 tm x <;> try rfl
  rename_i v
  cases v <;> try rfl
  simp only []
  cases Q5 tm y <;> try rfl
  rename_i v
  cases v <;> try rfl
  cases neg <;> rfl
 | eqP neg x y =>
  simp only [J6, Z4, Qp8, Z2]
  cases Q5 tm x <;> try rfl
  ·rename_i v
   cases v <;> try rfl
   simp only []
   cases Q5 tm y <;> try rfl
   rename_i v
   cases v <;> rfl
  ·simp only []
   cases Q5 tm y <;> try rfl
   rename_i v
   cases v <;> rfl
 | eqAgg neg kinds x y =>
  simp only [J6, Z4, Qgw, Z2, Qle]
  cases (Q5 tm x).aggs? <;> try rfl
  simp only []
  cases (Q5 tm y).aggs? <;> try rfl
  simp only [Qie, Jb, Gw]
  rename_i cs ds
  cases U5 kinds cs ds <;> rfl
 | not x =>
  simp only [J6, Z4, Qp3, Z2]; cases Q5 tm x <;> try rfl
  rename_i v; cases v <;> rfl
 | neg x =>
  simp only [J6, Z4, Qpg, Z2]; cases Q5 tm x <;> try rfl
  rename_i v; cases v <;> rfl
 | conv i x =>
  simp only [J6, Z4, Qky, Z2]; cases Q5 tm x <;> try rfl
  rename_i v; cases v <;> rfl
 | bytesOf x =>
  simp only [J6, Z4, Qae, Z2]; cases Q5 tm x <;> try rfl
  rename_i v; cases v <;> try rfl
  simp only [V8, Q3w, fin, Q0p]
 | strOf x =>
  simp only [J6, Z4, Qhf, Z2, Gc]
  cases Q5 tm x <;> try rfl
  ·rename_i v; cases v <;> rfl
  ·rename_i es a off len
   simp only []
   cases hp[a]? with
   | none => rfl
   | some o =>
    cases o <;> try rfl
    simp only [Jc, Q02, Q9c, Jb]
    rename_i cs
    cases Gn len (cs.drop off) with
    | none => rfl
    | some cs => simp only []; cases Qhl cs <;> rfl
 | makeFunc fn a b => simp only [J6, Z4, Q8y, Uw]; rfl
 | makeMap => simp only [J6, Z4, Qb7, Q3w, fin, Q0p]
 | insert kk m ke v =>
  simp only [J6, Z4, Qes, Z2, Gc]
  cases Q5 tm m <;> try rfl
  rename_i r
  cases Q5 tm ke
  case p kv =>
   simp only []
   cases h : hp[r]? with
   | none => rfl
   | some o =>
    cases o <;> try rfl
    rename_i es
    simp only [Q6j, U0]
    cases Q33 kk kv with
    | false => rfl
    | true =>
     simp only [if_true, Bool.true_eq_false, if_false]
     cases Q6l kv 0 es with
     | none => rfl
     | some r => cases r <;> simp [Q6i, Jw, fin, Q8q]
  all_goals
   simp only []
   cases h : hp[r]? with
   | none => rfl
   | some o => cases o <;> rfl
 | lookup kk z agg ok m ke =>
  simp only [J6, Z4, Qdy, Z2, Gc]
  cases Q5 tm m <;> try rfl
  rename_i r
  cases Q5 tm ke
  case p kv =>
   simp only []
   cases h : hp[r]? with
   | none => rfl
   | some o =>
    cases o <;> try rfl
    rename_i es
    simp only [Q6j, U0]
    cases Q33 kk kv with
    | false => rfl
    | true =>
     simp only [if_true, Bool.true_eq_false, if_false]
     cases Q6l kv 0 es with
     | none => rfl
     | some r =>
      cases r with
      | none =>
       simp only [V8, Q0l, Jb]
       cases sOf agg (z.map AV.p) <;> cases ok <;> rfl
      | some r => cases ok <;> rfl
  all_goals
   simp only []
   cases h : hp[r]? with
   | none => rfl
   | some o => cases o <;> rfl
 | makeSlice z bytes l c =>
  simp only [J6, Z4, Q78, Z2]
  cases Q5 tm l <;> try rfl
  rename_i v; cases v <;> try rfl
  simp only []
  cases Q5 tm c <;> try rfl
  rename_i v; cases v <;> try rfl
  simp only [U0, V8, Q3w]
  rename_i l _ c
  by_cases h1 : 0 ≤ l <;> by_cases h2 : l ≤ c <;> by_cases h3 : c * bytes ≤ 1099511627776 <;> simp [h1, h2, h3, fin, Q0p]
 | sliceStr x lo hi =>
  simp only [J6, Z4, Q9u, Z2, Qgf, Qcv, U0]
  cases Q5 tm x <;> try rfl
  rename_i v; cases v <;> try rfl
  rename_i s
  simp only []
  cases Q7g 0 (lo.map (Q5 tm)) <;> try rfl
  rename_i l
  simp only []
  cases Q7g s.length (hi.map (Q5 tm)) <;> try rfl
  rename_i h
  by_cases h1 : l ≤ h <;> by_cases h2 : h ≤ s.length <;> simp [h1, h2, fin, Qt, Ue]
 | slice esz x lo hi =>
  simp only [J6, Z4, Qho, Z2, Qgf, Qcv, U0]
  cases Q5 tm x <;> try rfl
  ·rename_i v; cases v <;> try rfl
   rename_i es s
   simp only []
   cases Q7g 0 (lo.map (Q5 tm)) <;> try rfl
   rename_i l
   simp only []
   cases Q7g s.length (hi.map (Q5 tm)) <;> try rfl
   rename_i h
   by_cases h0 : es = esz <;> by_cases h1 : l ≤ h <;> by_cases h2 : h ≤ s.length <;> simp [h0, h1, h2, fin, Qt, Ue]
  ·rename_i es a off s
   simp only []
   cases Q7g 0 (lo.map (Q5 tm)) <;> try rfl
   rename_i l
   simp only []
   cases Q7g s (hi.map (Q5 tm)) <;> try rfl
   rename_i h
   by_cases h0 : es = esz <;> by_cases h1 : l ≤ h <;> by_cases h2 : h ≤ s <;> simp [h0, h1, h2, fin, Qt, Ue]
 | sliceArr n esz x lo hi =>
  simp only [J6, Z4, Q8a, Z2, Qgf, Qcv, U0, Gc]
  cases Q5 tm x <;> try rfl
  rename_i a off
  simp only []
  cases hp[a]? with
  | none => rfl
  | some o =>
   cases o <;> try rfl
   rename_i cs
   simp only []
   cases Q7g 0 (lo.map (Q5 tm)) <;> try rfl
   rename_i l
   simp only []
   cases Q7g n (hi.map (Q5 tm)) <;> try rfl
   rename_i h
   by_cases h0 : off + n * esz ≤ cs.length <;> by_cases h1 : l ≤ h <;> by_cases h2 : h ≤ n <;> simp [h0, h1, h2, fin, Qt, Ue]
 | fieldAddr x off => simp only [J6, Z4, Q7i, Z2, Jc]; cases Q5 tm x <;> rfl
 | field x off n agg =>
  simp only [J6, Z4, Qhd, Z2, Qle]
  cases (Q5 tm x).aggs? <;> try rfl
  simp only [Jc, Q02, Q0l, Jb]
  rename_i cs
  cases Gn n (cs.drop off) with
  | none => rfl
  | some cs => simp only []; cases sOf agg cs <;> rfl
 | indexAddr esz x i =>
  simp only [J6, Z4, Q76, Z2, U0, Qmo]
  cases Q5 tm x <;> try rfl
  ·rename_i v; cases v <;> try rfl
   simp only []
   cases Q5 tm i <;> try rfl
   rename_i v; cases v <;> try rfl
   rename_i es rows _ n
   by_cases h0 : es = esz <;> cases hi : idx rows n <;> simp [h0, hi, fin, Qt, Ue]
  ·simp only []
   cases Q5 tm i <;> try rfl
   rename_i v; cases v <;> try rfl
   rename_i es a off len _ n
   by_cases h1 : 0 ≤ n <;> by_cases h2 : n < len <;> simp [h1, h2, fin, Qt, Ue]
 | indexArr len esz x i =>
  simp only [J6, Z4, Q8w, Z2, U0]
  cases Q5 tm x <;> try rfl
  all_goals
   simp only []
   cases Q5 tm i <;> try rfl
   rename_i v; cases v <;> try rfl
   rename_i n
   by_cases h1 : 0 ≤ n <;> by_cases h2 : n < len <;> simp [h1, h2, fin, Qt, Ue]
 | indexStr x i =>
  simp only [J6, Z4, Q8p, Z2, Qmo]
  cases Q5 tm x <;> try rfl
  rename_i v; cases v <;> try rfl
  simp only []
  cases Q5 tm i <;> try rfl
  rename_i v; cases v <;> try rfl
  simp only [Jb]
  rename_i s _ n
  cases idx s n <;> rfl
 | extract x i =>
  simp only [J6, Z4, Qau, Z2]
  cases Q5 tm x <;> try rfl
  ·rename_i v; cases v <;> try rfl
   rename_i vs
   simp only [Jb]
   cases vs[i]? <;> rfl
  ·rename_i vs
   simp only [Jb]
   cases vs[i]? <;> rfl
 | lenStr x =>
  simp only [J6, Z4, Qe6, Z2]
  cases Q5 tm x <;> try rfl
  rename_i v; cases v <;> rfl
 | lenSl x =>
  simp only [J6, Z4, Qhc, Z2]
  cases Q5 tm x <;> try rfl
  rename_i v; cases v <;> rfl
 | lenMap x =>
  simp only [J6, Z4, Qe3, Z2, Gc]
  cases Q5 tm x <;> try rfl
  ·rename_i v; cases v <;> rfl
  ·rename_i r
   simp only []
   cases hp[r]? with
   | none => rfl
   | some o => cases o <;> rfl
 | append esz bytes s x => simp only [J6, Z4]; exact Q7m ..
 | appendT esz bytes s x =>
  simp only [J6, Z4, Qao, Z2, Q7m, Qfb]
  cases hs : Q5 tm s <;> try rfl
  rename_i es a off len
  simp only [Gc, U0, Q45, Q6i]
  cases hp[a]? with
  | none => rfl
  | some o =>
   cases o <;> try rfl
   rename_i cs
   simp only []
   by_cases h0 : off + len * esz ≤ cs.length
   ·have h1 : Nat.ble (off + len * esz) cs.length = true := by simpa using h0
    rw [h1, if_pos h0, if_pos rfl]
    rw [List.length_set]
    cases hq : Q9z (hp.set a (.cells (cs.take (off + len * esz)))) hp.length esz bytes (.slice es a off len) (Q5 tm x) with
    | none => rfl
    | some q =>
     obtain ⟨v, e⟩ := q
     show k v (e.apply (hp.set a (.cells (cs.take (off + len * esz)))) (hp.set a (.cells (cs.take (off + len * esz)))).length) = k v ((e.pre a (.cells (cs.take (off + len * esz)))).apply hp hp.length)
     rw [Qf1 (Qfr hq), List.length_set]
   ·have h1 : Nat.ble (off + len * esz) cs.length = false := by rw [← Bool.not_eq_true, Nat.ble_eq]; exact h0
    rw [h1, if_neg h0]; rfl
 | copyB d s =>
  have hc : ∀ new, (match Q5 tm d with
    | .p .nilSlice => k (.p (.int .i64 0)) hp
    | .slice es a off len => Qfj E hp a fun
     | .cells cs => chk E (Nat.beq es 1 && (Nat.ble (off + len) cs.length && Nat.ble 1 len))
      (Qcf len new cs off fun n cs => Qn4 hp a (.cells cs) fun hp => k (.p (.int .i64 n)) hp)
     | _ => E.fail
    | _ => E.fail) = fin E hp k (Qg8 hp (Q5 tm d) new) := fun new => by
   simp only [Gc, U0, Qcf, Q45, Q8f, Q1j, Q6i, Qg8]
   cases Q5 tm d <;> try rfl
   ·rename_i v; cases v <;> rfl
   ·rename_i es a off len
    simp only []
    cases hp[a]? with
    | none => rfl
    | some o =>
     cases o <;> try rfl
     rename_i cs
     simp only []
     by_cases h1 : es = 1 <;> by_cases h2 : off + len ≤ cs.length <;> by_cases h3 : 1 ≤ len <;> simp [h1, h2, h3, fin, Q8q] <;> omega
  simp only [J6, Z4, Qhk, Z2, Qr9]
  cases Qjy hp (Q5 tm s) with
  | none => rfl
  | some new => exact hc new
 | max x y =>
  simp only [J6, Z4, Qpc, Z2, Gw]
  cases Q5 tm x <;> try rfl
  rename_i v; cases v <;> try rfl
  simp only []
  cases Q5 tm y <;> try rfl
  rename_i v; cases v <;> try rfl
  simp [fin, Qt, Ue]
 | min x y =>
  simp only [J6, Z4, Qpi, Z2, Gw]
  cases Q5 tm x <;> try rfl
  rename_i v; cases v <;> try rfl
  simp only []
  cases Q5 tm y <;> try rfl
  rename_i v; cases v <;> try rfl
  simp [fin, Qt, Ue]
end
end
end Go.Av
