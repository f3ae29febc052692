/- An abstract machine for the modelled code, and what its runs say of real calls. Part of a proof of a given statement: for every input the law returns true and the arguments read as before; no condition beyond the given row. -/
import Derived.Test.YtegedmcbfmfjeaaGreatDoorAvStep
namespace Go.Av
noncomputable section
universe u
section
variable {α : Type u} (E : Env α)
def fin (E : Env α) (hp : List AObj) (k : AV → List AObj → α) : Option (AV × Eff) → α
 | some (v, e) => k v (e.apply hp hp.length)
 | none => E.fail
theorem Qd9 (hp : List AObj) (k : AV → List AObj → α) : fin E hp k none = E.fail := rfl
theorem Qcm (hp : List AObj) (k : AV → List AObj → α) (v : AV) (e : Eff) : fin E hp k (some (v, e)) = k v (e.apply hp hp.length) := rfl
theorem Jp {β : Type} (hp : List AObj) (k : AV → List AObj → α) (o : Option β) (f : β → Option (AV × Eff)) : fin E hp k (o.bind f) = (match o with
  | some b => fin E hp k (f b)
  | none => E.fail) := by cases o <;> rfl
theorem Qlf {β : Type} (hp : List AObj) (k : AV → List AObj → α) (o : Option β) (f : β → AV × Eff) : fin E hp k (o.map f) = (match o with
  | some b => fin E hp k (some (f b))
  | none => E.fail) := by cases o <;> rfl
theorem Q12 (hp : List AObj) (o : AObj) : ({ new := some o } : Eff).apply hp hp.length = hp ++ [o] := by simp [Eff.apply, plc]
theorem Qa9 (hp : List AObj) (n : Nat) (a : Nat) (o : AObj) : ({ set := some (a, o) } : Eff).apply hp n = hp.set a o := by simp [Eff.apply]
theorem Qk8 (hp : List AObj) (a : Nat) (o o' : AObj) : ({ set := some (a, o), new := some o' } : Eff).apply hp hp.length = hp.set a o ++ [o'] := by simp [Eff.apply, plc]
theorem Ul (hp : List AObj) (n : Nat) : ({} : Eff).apply hp n = hp := rfl

theorem Qsg (hp : List AObj) (esz bytes : Nat) (s : AV) (new : List AV) (n : Nat) (k : AV → List AObj → α) :
  Qt9 E hp esz bytes s new n k = fin E hp k (Qe5 hp hp.length esz bytes s new n) := by
 unfold Qt9 Qe5
 by_cases hn : n = 0
 ·subst hn
  simp only [ifB, if_true]
  cases s with
  | p v => cases v <;> rfl
  | _ => rfl
 ·have : Nat.beq n 0 = false := by cases n <;> first | rfl | simp_all
  simp only [this, ifB, hn, if_false]
  cases s with
  | p v =>
   cases v <;> (try rfl)
   by_cases h3 : (n + 4096) * bytes ≤ 17592186044416 <;> simp [Ua, Q46, h3, fin, Q12]
  | slice es a off len =>
   simp only [Gm]
   cases h : hp[a]? with
   | none => rfl
   | some o =>
    cases o <;> simp only [Ua, Uq, Gb, Q7g, Q46, fin] <;> (try rfl)
    by_cases h1 : es = esz <;> rename_i cs <;> by_cases h2 : off + len * esz = cs.length <;> by_cases h3 : (len + n + 4096) * bytes ≤ 17592186044416 <;> simp [h1, h2, h3, Qk8, List.length_set]
  | _ => rfl

theorem Qr8 (hp : List AObj) (K : List AV → α) (v : AV) : Qvc E hp K v = (match Qo6 hp v with
  | some new => K new
  | none => E.fail) := by
 unfold Qvc Qo6
 cases v <;> try rfl
 ·rename_i p; cases p <;> try rfl
  ·simp [Wy]
  ·rename_i es rows
   simp only [Ua, Wy]
   by_cases h0 : es = 1
   ·simp [h0]
   ·have : Nat.beq es 1 = false := by rw [← Bool.not_eq_true, Nat.beq_eq]; exact h0
    simp [h0, this]
 ·rename_i es b off n
  simp only [Gm, Uq, Ua, Jr]
  cases hp[b]? with
  | none => rfl
  | some o =>
   cases o <;> try rfl
   rename_i cs
   by_cases h0 : es = 1
   ·simp only [h0, if_true, Nat.beq_refl]
    cases Jz n (cs.drop off) <;> rfl
   ·have : Nat.beq es 1 = false := by rw [← Bool.not_eq_true, Nat.beq_eq]; exact h0
    simp [h0, this]
theorem Q80 (tm : List AV) (hp : List AObj) (k : AV → List AObj → α) (esz bytes : Nat) (s x : Opd) : Q3w E tm hp k esz bytes s x = fin E hp k (Qav hp hp.length esz bytes (Q7 tm s) (Q7 tm x)) := by
 simp only [Qav, Q3w, Za, Gm, Ua, Qsg, Wy, Uq, Jr]
 cases Q7 tm x <;> try rfl
 ·rename_i v; cases v <;> try rfl
  ·rename_i b
   by_cases h0 : esz = 1
   ·simp [h0]
   ·have : Nat.beq esz 1 = false := by rw [← Bool.not_eq_true, Nat.beq_eq]; exact h0
    simp [h0, this, Qd9]
  ·rename_i es rows
   by_cases h0 : es = esz
   ·simp [h0]
   ·have : Nat.beq es esz = false := by rw [← Bool.not_eq_true, Nat.beq_eq]; exact h0
    simp [h0, this, Qd9]
 ·rename_i es b off n
  simp only []
  cases hp[b]? with
  | none => rfl
  | some o =>
   cases o <;> try rfl
   rename_i cs
   by_cases h0 : es = esz
   ·simp only [h0, if_true, Jp, Nat.beq_refl]
    cases Jz (n * esz) (cs.drop off) <;> rfl
   ·have : Nat.beq es esz = false := by rw [← Bool.not_eq_true, Nat.beq_eq]; exact h0
    simp [h0, this, Qd9]
theorem Q94 (tm : List AV) (hp : List AObj) (k : AV → List AObj → α) (c : COp) (hc : c.isCall = false) :
  J1 E tm hp k c = fin E hp k (Zg E.glob tm hp hp.length c) := by
 cases c with
 | call f args => cases hc
 | callv f args => cases hc
 | move x => simp only [J1, Zg, Qdm, Za]; rfl
 | pick c a b =>
  simp only [J1, Zg, Qlt, Za, Q01]
  cases Q7 tm c <;> try rfl
  rename_i v; cases v <;> try rfl
  rename_i b; cases b <;> rfl
 | alloc z => simp only [J1, Zg, Qin, Wy, Q46, Qcm, Q12]
 | box x =>
  simp only [J1, Zg, Qqb, Za, Qad, Q46, Qlf, Qcm, Q12]
  cases (Q7 tm x).cells? <;> rfl
 | build z ps =>
  simp only [J1, Zg, Qhs, Wy, Qd2, Jp]
  cases Q2r tm (z.map AV.p) ps <;> rfl
 | buildSlice z len esz ps =>
  simp only [J1, Zg, Q74, Wy, Qd2, Q46, Qlf, Qcm, Q12]
  cases Q2r tm ((List.replicate len z).flatten.map AV.p) ps <;> rfl
 | load n agg x =>
  simp only [J1, Zg, Qni, Za, Q55, Jr, Q0z, Jp]
  cases Jd E.glob hp (Q7 tm x) with
  | none => rfl
  | some cs =>
   simp only []
   cases Jz n cs with
   | none => rfl
   | some cs => simp only []; cases sOf agg cs <;> rfl
 | store n x y =>
  simp only [J1, Zg, Qi9, Za, Gm, Qad, Ua, Q27, Q7g]
  cases Q7 tm x <;> try rfl
  rename_i a off
  simp only []
  cases hp[a]? with
  | none => rfl
  | some o =>
   cases o <;> try rfl
   rename_i cs
   simp only []
   cases (Q7 tm y).cells? with
   | none => rfl
   | some v =>
    simp only []
    by_cases h1 : v.length = n <;> by_cases h2 : off + n ≤ cs.length <;> simp [h1, h2, fin, Qa9]
 | nilCheck x =>
  simp only [J1, Zg, Q9o, Za]
  cases Q7 tm x <;> try rfl
  ·rename_i v; cases v <;> try rfl
   rename_i fn a b; cases fn <;> rfl
  ·rename_i fn a b; cases fn <;> rfl
 | ari op x y =>
  simp only [J1, Zg, Qql, Za]
  cases Q7 tm x <;> try rfl
  rename_i v
  cases v <;> try rfl
  ·simp only []
   cases Q7 tm y <;> try rfl
   rename_i v
   cases v <;> try rfl
   simp only [Qt2, Ua]
   rename_i i x j y
   cases Qc1 op i j
   ·rfl
   ·simp only [if_true, Jp]
    cases Qs3 op i x y <;> rfl
  ·simp only []
   cases Q7 tm y <;> try rfl
   rename_i v
   cases v <;> try rfl
   cases op <;> try rfl
   simp only [Ua]
   rename_i s t
   by_cases h : s.length + t.length ≤ 4611686018427387904 <;> simp [h, fin, Z8, Ul]
 | cmp op x y =>
  simp only [J1, Zg, Qqg, Za, Jp, E.cmp.2, E.scmp.2]
  cases Q7 tm x <;> try rfl
  rename_i v
  cases v <;> try rfl
  ·simp only []
   cases Q7 tm y <;> try rfl
   rename_i v
   cases v <;> try rfl
   rename_i i x j y
   simp only [Ua, Qun]
   cases i == j <;> rfl
  ·simp only []
   cases Q7 tm y <;> try rfl
   rename_i v
   cases v <;> rfl
 | eqB neg x y =>
  simp only [J1, Zg, Qqn, Za]
  cases Q7 tm x <;> try rfl
  rename_i v
  cases v <;> try rfl
  simp only []
  cases Q7 tm y <;> try rfl
  rename_i v
  cases v <;> try rfl
  cases neg <;> rfl
 | eqP neg x y =>
  simp only [J1, Zg, Qqh, Za]
  cases Q7 tm x <;> try rfl
  ·rename_i v
   cases v <;> try rfl
   simp only []
   cases Q7 tm y <;> try rfl
   rename_i v
   cases v <;> rfl
  ·simp only []
   cases Q7 tm y <;> try rfl
   rename_i v
   cases v <;> rfl
 | eqAgg neg kinds x y =>
  simp only [J1, Zg, Qim, Za, Qm6]
  cases (Q7 tm x).aggs? <;> try rfl
  simp only []
  cases (Q7 tm y).aggs? <;> try rfl
  simp only [Qk9, Jp, Q01]
  rename_i cs ds
  cases Ue kinds cs ds <;> rfl
 | not x =>
  simp only [J1, Zg, Qr4, Za]; cases Q7 tm x <;> try rfl
  rename_i v; cases v <;> rfl
 | neg x =>
  simp only [J1, Zg, Qqm, Za]; cases Q7 tm x <;> try rfl
  rename_i v; cases v <;> rfl
 | conv i x =>
  simp only [J1, Zg, Qln, Za]; cases Q7 tm x <;> try rfl
  rename_i v; cases v <;> rfl
 | bytesOf x =>
  simp only [J1, Zg, Qc0, Za]; cases Q7 tm x <;> try rfl
  rename_i v; cases v <;> try rfl
  simp only [Wy, Q46, fin, Q12]
 | strOf x =>
  simp only [J1, Zg, Qhw, Za, Gm]
  cases Q7 tm x <;> try rfl
  ·rename_i v; cases v <;> rfl
  ·rename_i es a off len
   simp only []
   cases hp[a]? with
   | none => rfl
   | some o =>
    cases o <;> try rfl
    simp only [Uq, Jr, Q91, Jp]
    rename_i cs
    cases Jz len (cs.drop off) with
    | none => rfl
    | some cs => simp only []; cases Qix cs <;> rfl
 | makeFunc fn a b => simp only [J1, Zg, Q9s, Jb]; rfl
 | makeMap => simp only [J1, Zg, Qbt, Q46, fin, Q12]
 | insert kk m ke v =>
  simp only [J1, Zg, Qeg, Za, Gm]
  cases Q7 tm m <;> try rfl
  rename_i r
  cases Q7 tm ke
  case p kv =>
   simp only []
   cases h : hp[r]? with
   | none => rfl
   | some o =>
    cases o <;> try rfl
    rename_i es
    simp only [Q7c, Ua]
    cases Q3o kk kv with
    | false => rfl
    | true =>
     simp only [if_true, Bool.true_eq_false, if_false]
     cases Q7u kv 0 es with
     | none => rfl
     | some r => cases r <;> simp [Q7g, Gb, fin, Qa9]
  all_goals
   simp only []
   cases h : hp[r]? with
   | none => rfl
   | some o => cases o <;> rfl
 | lookup kk z agg ok m ke =>
  simp only [J1, Zg, Qg4, Za, Gm]
  cases Q7 tm m <;> try rfl
  rename_i r
  cases Q7 tm ke
  case p kv =>
   simp only []
   cases h : hp[r]? with
   | none => rfl
   | some o =>
    cases o <;> try rfl
    rename_i es
    simp only [Q7c, Ua]
    cases Q3o kk kv with
    | false => rfl
    | true =>
     simp only [if_true, Bool.true_eq_false, if_false]
     cases Q7u kv 0 es with
     | none => rfl
     | some r =>
      cases r with
      | none =>
       simp only [Wy, Q0z, Jp]
       cases sOf agg (z.map AV.p) <;> cases ok <;> rfl
      | some r => cases ok <;> rfl
  all_goals
   simp only []
   cases h : hp[r]? with
   | none => rfl
   | some o => cases o <;> rfl
 | makeSlice z bytes l c =>
  simp only [J1, Zg, Q83, Za]
  cases Q7 tm l <;> try rfl
  rename_i v; cases v <;> try rfl
  simp only []
  cases Q7 tm c <;> try rfl
  rename_i v; cases v <;> try rfl
  simp only [Ua, Wy, Q46]
  rename_i l _ c
  by_cases h1 : 0 ≤ l <;> by_cases h2 : l ≤ c <;> by_cases h3 : c * bytes ≤ 1099511627776 <;> simp [h1, h2, h3, fin, Q12]
 | sliceStr x lo hi =>
  simp only [J1, Zg, Q9f, Za, Qh1, Qcj, Ua]
  cases Q7 tm x <;> try rfl
  rename_i v; cases v <;> try rfl
  rename_i s
  simp only []
  cases Q87 0 (lo.map (Q7 tm)) <;> try rfl
  rename_i l
  simp only []
  cases Q87 s.length (hi.map (Q7 tm)) <;> try rfl
  rename_i h
  by_cases h1 : l ≤ h <;> by_cases h2 : h ≤ s.length <;> simp [h1, h2, fin, Z8, Ul]
 | slice esz x lo hi =>
  simp only [J1, Zg, Qhu, Za, Qh1, Qcj, Ua]
  cases Q7 tm x <;> try rfl
  ·rename_i v; cases v <;> try rfl
   rename_i es s
   simp only []
   cases Q87 0 (lo.map (Q7 tm)) <;> try rfl
   rename_i l
   simp only []
   cases Q87 s.length (hi.map (Q7 tm)) <;> try rfl
   rename_i h
   by_cases h0 : es = esz <;> by_cases h1 : l ≤ h <;> by_cases h2 : h ≤ s.length <;> simp [h0, h1, h2, fin, Z8, Ul]
  ·rename_i es a off s
   simp only []
   cases Q87 0 (lo.map (Q7 tm)) <;> try rfl
   rename_i l
   simp only []
   cases Q87 s (hi.map (Q7 tm)) <;> try rfl
   rename_i h
   by_cases h0 : es = esz <;> by_cases h1 : l ≤ h <;> by_cases h2 : h ≤ s <;> simp [h0, h1, h2, fin, Z8, Ul]
 | sliceArr n esz x lo hi =>
  simp only [J1, Zg, Qap, Za, Qh1, Qcj, Ua, Gm]
  cases Q7 tm x <;> try rfl
  rename_i a off
  simp only []
  cases hp[a]? with
  | none => rfl
  | some o =>
   cases o <;> try rfl
   rename_i cs
   simp only []
   cases Q87 0 (lo.map (Q7 tm)) <;> try rfl
   rename_i l
   simp only []
   cases Q87 n (hi.map (Q7 tm)) <;> try rfl
   rename_i h
   by_cases h0 : off + n * esz ≤ cs.length <;> by_cases h1 : l ≤ h <;> by_cases h2 : h ≤ n <;> simp [h0, h1, h2, fin, Z8, Ul]
 | fieldAddr x off => simp only [J1, Zg, Q85, Za, Uq]; cases Q7 tm x <;> rfl
 | field x off n agg =>
  simp only [J1, Zg, Qj9, Za, Qm6]
  cases (Q7 tm x).aggs? <;> try rfl
  simp only [Uq, Jr, Q0z, Jp]
  rename_i cs
  cases Jz n (cs.drop off) with
  | none => rfl
  | some cs => simp only []; cases sOf agg cs <;> rfl
 | indexAddr esz x i =>
  simp only [J1, Zg, Q7x, Za, Ua, Qp7]
  cases Q7 tm x <;> try rfl
  ·rename_i v; cases v <;> try rfl
   simp only []
   cases Q7 tm i <;> try rfl
   rename_i v; cases v <;> try rfl
   rename_i es rows _ n
   by_cases h0 : es = esz <;> cases hi : idx rows n <;> simp [h0, hi, fin, Z8, Ul]
  ·simp only []
   cases Q7 tm i <;> try rfl
   rename_i v; cases v <;> try rfl
   rename_i es a off len _ n
   by_cases h1 : 0 ≤ n <;> by_cases h2 : n < len <;> simp [h1, h2, fin, Z8, Ul]
 | indexArr len esz x i =>
  simp only [J1, Zg, Qag, Za, Ua]
  cases Q7 tm x <;> try rfl
  all_goals
   simp only []
   cases Q7 tm i <;> try rfl
   rename_i v; cases v <;> try rfl
   rename_i n
   by_cases h1 : 0 ≤ n <;> by_cases h2 : n < len <;> simp [h1, h2, fin, Z8, Ul]
 | indexStr x i =>
  simp only [J1, Zg, Q9a, Za, Qp7]
  cases Q7 tm x <;> try rfl
  rename_i v; cases v <;> try rfl
  simp only []
  cases Q7 tm i <;> try rfl
  rename_i v; cases v <;> try rfl
  simp only [Jp]
  rename_i s _ n
  cases idx s n <;> rfl
 | extract x i =>
  simp only [J1, Zg, Q4p, Za]
  cases Q7 tm x <;> try rfl
  ·rename_i v; cases v <;> try rfl
   rename_i vs
   simp only [Jp]
   cases vs[i]? <;> rfl
  ·rename_i vs
   simp only [Jp]
   cases vs[i]? <;> rfl
 | lenStr x =>
  simp only [J1, Zg, Qev, Za]
  cases Q7 tm x <;> try rfl
  rename_i v; cases v <;> rfl
 | lenSl x =>
  simp only [J1, Zg, Qik, Za]
  cases Q7 tm x <;> try rfl
  rename_i v; cases v <;> rfl
 | lenMap x =>
  simp only [J1, Zg, Qf6, Za, Gm]
  cases Q7 tm x <;> try rfl
  ·rename_i v; cases v <;> rfl
  ·rename_i r
   simp only []
   cases hp[r]? with
   | none => rfl
   | some o => cases o <;> rfl
 | append esz bytes s x => simp only [J1, Zg]; exact Q80 ..
 | appendT esz bytes s x =>
  simp only [J1, Zg, Qbq, Za, Q80, Qhp]
  cases hs : Q7 tm s <;> try rfl
  rename_i es a off len
  simp only [Gm, Ua, Q4q, Q7g]
  cases hp[a]? with
  | none => rfl
  | some o =>
   cases o <;> try rfl
   rename_i cs
   simp only []
   by_cases h0 : off + len * esz ≤ cs.length
   ·have h1 : Nat.ble (off + len * esz) cs.length = true := by simpa using h0
    rw [h1, if_pos h0, if_pos rfl]
    rw [List.length_set]
    cases hq : Qav (hp.set a (.cells (cs.take (off + len * esz)))) hp.length esz bytes (.slice es a off len) (Q7 tm x) with
    | none => rfl
    | some q =>
     obtain ⟨v, e⟩ := q
     show k v (e.apply (hp.set a (.cells (cs.take (off + len * esz)))) (hp.set a (.cells (cs.take (off + len * esz)))).length) = k v ((e.pre a (.cells (cs.take (off + len * esz)))).apply hp hp.length)
     rw [Qfk (Qh5 hq), List.length_set]
   ·have h1 : Nat.ble (off + len * esz) cs.length = false := by rw [← Bool.not_eq_true, Nat.ble_eq]; exact h0
    rw [h1, if_neg h0]; rfl
 | copyB d s =>
  have hc : ∀ new, (match Q7 tm d with
    | .p .nilSlice => k (.p (.int .i64 0)) hp
    | .slice es a off len => Qh0 E hp a fun
     | .cells cs => chk E (Nat.beq es 1 && (Nat.ble (off + len) cs.length && Nat.ble 1 len))
      (Qb8 len new cs off fun n cs => Qpz hp a (.cells cs) fun hp => k (.p (.int .i64 n)) hp)
     | _ => E.fail
    | _ => E.fail) = fin E hp k (Qhh hp (Q7 tm d) new) := fun new => by
   simp only [Gm, Ua, Qb8, Q4q, Qai, Q27, Q7g, Qhh]
   cases Q7 tm d <;> try rfl
   ·rename_i v; cases v <;> rfl
   ·rename_i es a off len
    simp only []
    cases hp[a]? with
    | none => rfl
    | some o =>
     cases o <;> try rfl
     rename_i cs
     simp only []
     by_cases h1 : es = 1 <;> by_cases h2 : off + len ≤ cs.length <;> by_cases h3 : 1 ≤ len <;> simp [h1, h2, h3, fin, Qa9] <;> omega
  simp only [J1, Zg, Qis, Za, Qr8]
  cases Qo6 hp (Q7 tm s) with
  | none => rfl
  | some new => exact hc new
 | max x y =>
  simp only [J1, Zg, Qqk, Za, Q01]
  cases Q7 tm x <;> try rfl
  rename_i v; cases v <;> try rfl
  simp only []
  cases Q7 tm y <;> try rfl
  rename_i v; cases v <;> try rfl
  simp [fin, Z8, Ul]
 | min x y =>
  simp only [J1, Zg, Qr0, Za, Q01]
  cases Q7 tm x <;> try rfl
  rename_i v; cases v <;> try rfl
  simp only []
  cases Q7 tm y <;> try rfl
  rename_i v; cases v <;> try rfl
  simp [fin, Z8, Ul]
end
end
end Go.Av
