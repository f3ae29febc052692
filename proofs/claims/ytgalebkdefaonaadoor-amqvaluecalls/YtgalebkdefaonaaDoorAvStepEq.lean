/- An abstract machine for the modelled code, and what its runs say of real calls. Part of a proof of a given statement: for every input the law returns true and the arguments read as before; no condition beyond the given row. -/
import Derived.Test.YtgalebkdefaonaaDoorAvStep
namespace Go.Av
noncomputable section
universe u
section
variable {α : Type u} (E : Env α)
def fin (E : Env α) (hp : List AObj) (k : AV → List AObj → α) : Option (AV × Eff) → α
  | some (v, e) => k v (e.apply hp hp.length)
  | none => E.fail
theorem fin_none (hp : List AObj) (k : AV → List AObj → α) : fin E hp k none = E.fail := rfl
theorem fin_some (hp : List AObj) (k : AV → List AObj → α) (v : AV) (e : Eff) : fin E hp k (some (v, e)) = k v (e.apply hp hp.length) := rfl
theorem fin_bind {β : Type} (hp : List AObj) (k : AV → List AObj → α) (o : Option β) (f : β → Option (AV × Eff)) : fin E hp k (o.bind f) = (match o with
    | some b => fin E hp k (f b)
    | none => E.fail) := by cases o <;> rfl
theorem fin_map {β : Type} (hp : List AObj) (k : AV → List AObj → α) (o : Option β) (f : β → AV × Eff) : fin E hp k (o.map f) = (match o with
    | some b => fin E hp k (some (f b))
    | none => E.fail) := by cases o <;> rfl
theorem apply_new (hp : List AObj) (o : AObj) : ({ new := some o } : Eff).apply hp hp.length = hp ++ [o] := by simp [Eff.apply, plc]
theorem apply_set (hp : List AObj) (n : Nat) (a : Nat) (o : AObj) : ({ set := some (a, o) } : Eff).apply hp n = hp.set a o := by simp [Eff.apply]
theorem apply_both (hp : List AObj) (a : Nat) (o o' : AObj) : ({ set := some (a, o), new := some o' } : Eff).apply hp hp.length = hp.set a o ++ [o'] := by simp [Eff.apply, plc]
theorem apply_none (hp : List AObj) (n : Nat) : ({} : Eff).apply hp n = hp := rfl

theorem addK_eq (hp : List AObj) (esz bytes : Nat) (s : AV) (new : List AV) (n : Nat) (k : AV → List AObj → α) :
    addK E hp esz bytes s new n k = fin E hp k (sAdd hp hp.length esz bytes s new n) := by
  unfold addK sAdd
  by_cases hn : n = 0
  · subst hn
    simp only [ifB, if_true]
    cases s with
    | p v => cases v <;> rfl
    | _ => rfl
  · have : Nat.beq n 0 = false := by cases n <;> first | rfl | simp_all
    simp only [this, ifB, hn, if_false]
    cases s with
    | p v =>
      cases v <;> (try rfl)
      by_cases h3 : (n + 4096) * bytes ≤ 17592186044416 <;> simp [chk_eq, newK_eq, h3, fin, apply_new]
    | slice es a off len =>
      simp only [objK_eq]
      cases h : hp[a]? with
      | none => rfl
      | some o =>
        cases o <;> simp only [chk_eq, dropK_eq, appK_eq, setK_eq, newK_eq, fin] <;> (try rfl)
        by_cases h1 : es = esz <;> rename_i cs <;> by_cases h2 : off + len * esz = cs.length <;> by_cases h3 : (len + n + 4096) * bytes ≤ 17592186044416 <;> simp [h1, h2, h3, apply_both, List.length_set]
    | _ => rfl

theorem srcK_eq (hp : List AObj) (K : List AV → α) (v : AV) : srcK E hp K v = (match sSrc hp v with
    | some new => K new
    | none => E.fail) := by
  unfold srcK sSrc
  cases v <;> try rfl
  · rename_i p; cases p <;> try rfl
    · simp [mapK_eq]
    · rename_i es rows
      simp only [chk_eq, mapK_eq]
      by_cases h0 : es = 1
      · simp [h0]
      · have : Nat.beq es 1 = false := by rw [← Bool.not_eq_true, Nat.beq_eq]; exact h0
        simp [h0, this]
  · rename_i es b off n
    simp only [objK_eq, dropK_eq, chk_eq, takeN_eq]
    cases hp[b]? with
    | none => rfl
    | some o =>
      cases o <;> try rfl
      rename_i cs
      by_cases h0 : es = 1
      · simp only [h0, if_true, Nat.beq_refl]
        cases sTake n (cs.drop off) <;> rfl
      · have : Nat.beq es 1 = false := by rw [← Bool.not_eq_true, Nat.beq_eq]; exact h0
        simp [h0, this]
theorem op_append_eq (tm : List AV) (hp : List AObj) (k : AV → List AObj → α) (esz bytes : Nat) (s x : Opd) : op_append E tm hp k esz bytes s x = fin E hp k (sApp hp hp.length esz bytes (evOpd tm s) (evOpd tm x)) := by
  simp only [sApp, op_append, opdK_eq, objK_eq, chk_eq, addK_eq, mapK_eq, dropK_eq, takeN_eq]
  cases evOpd tm x <;> try rfl
  · rename_i v; cases v <;> try rfl
    · rename_i b
      by_cases h0 : esz = 1
      · simp [h0]
      · have : Nat.beq esz 1 = false := by rw [← Bool.not_eq_true, Nat.beq_eq]; exact h0
        simp [h0, this, fin_none]
    · rename_i es rows
      by_cases h0 : es = esz
      · simp [h0]
      · have : Nat.beq es esz = false := by rw [← Bool.not_eq_true, Nat.beq_eq]; exact h0
        simp [h0, this, fin_none]
  · rename_i es b off n
    simp only []
    cases hp[b]? with
    | none => rfl
    | some o =>
      cases o <;> try rfl
      rename_i cs
      by_cases h0 : es = esz
      · simp only [h0, if_true, fin_bind, Nat.beq_refl]
        cases sTake (n * esz) (cs.drop off) <;> rfl
      · have : Nat.beq es esz = false := by rw [← Bool.not_eq_true, Nat.beq_eq]; exact h0
        simp [h0, this, fin_none]
theorem evOp_step (tm : List AV) (hp : List AObj) (k : AV → List AObj → α) (c : COp) (hc : c.isCall = false) :
    evOp E tm hp k c = fin E hp k (step E.glob tm hp hp.length c) := by
  cases c with
  | call f args => cases hc
  | callv f args => cases hc
  | move x => simp only [evOp, step, op_move, opdK_eq]; rfl
  | pick c a b =>
    simp only [evOp, step, op_pick, opdK_eq, ifB_eq]
    cases evOpd tm c <;> try rfl
    rename_i v; cases v <;> try rfl
    rename_i b; cases b <;> rfl
  | alloc z => simp only [evOp, step, op_alloc, mapK_eq, newK_eq, fin_some, apply_new]
  | box x =>
    simp only [evOp, step, op_box, opdK_eq, cellsK_eq, newK_eq, fin_map, fin_some, apply_new]
    cases (evOpd tm x).cells? <;> rfl
  | build z ps =>
    simp only [evOp, step, op_build, mapK_eq, fillK_eq, fin_bind]
    cases sFill tm (z.map AV.p) ps <;> rfl
  | buildSlice z len esz ps =>
    simp only [evOp, step, op_buildSlice, mapK_eq, fillK_eq, newK_eq, fin_map, fin_some, apply_new]
    cases sFill tm ((List.replicate len z).flatten.map AV.p) ps <;> rfl
  | load n agg x =>
    simp only [evOp, step, op_load, opdK_eq, getCells_eq, takeN_eq, ofCellsK_eq, fin_bind]
    cases sCells E.glob hp (evOpd tm x) with
    | none => rfl
    | some cs =>
      simp only []
      cases sTake n cs with
      | none => rfl
      | some cs => simp only []; cases sOf agg cs <;> rfl
  | store n x y =>
    simp only [evOp, step, op_store, opdK_eq, objK_eq, cellsK_eq, chk_eq, spliceK_eq, setK_eq]
    cases evOpd tm x <;> try rfl
    rename_i a off
    simp only []
    cases hp[a]? with
    | none => rfl
    | some o =>
      cases o <;> try rfl
      rename_i cs
      simp only []
      cases (evOpd tm y).cells? with
      | none => rfl
      | some v =>
        simp only []
        by_cases h1 : v.length = n <;> by_cases h2 : off + n ≤ cs.length <;> simp [h1, h2, fin, apply_set]
  | nilCheck x =>
    simp only [evOp, step, op_nilCheck, opdK_eq]
    cases evOpd tm x <;> try rfl
    · rename_i v; cases v <;> try rfl
      rename_i fn a b; cases fn <;> rfl
    · rename_i fn a b; cases fn <;> rfl
  | ari op x y =>
    simp only [evOp, step, op_ari, opdK_eq]
    cases evOpd tm x <;> try rfl
    rename_i v
    cases v <;> try rfl
    · simp only []
      cases evOpd tm y <;> try rfl
      rename_i v
      cases v <;> try rfl
      simp only [ariI_eq, chk_eq]
      rename_i i x j y
      cases kindOk op i j
      · rfl
      · simp only [if_true, fin_bind]
        cases sAri op i x y <;> rfl
    · simp only []
      cases evOpd tm y <;> try rfl
      rename_i v
      cases v <;> try rfl
      cases op <;> try rfl
      simp only [chk_eq]
      rename_i s t
      by_cases h : s.length + t.length ≤ 4611686018427387904 <;> simp [h, fin, pureE, apply_none]
  | cmp op x y =>
    simp only [evOp, step, op_cmp, opdK_eq, fin_bind]
    cases evOpd tm x <;> try rfl
    rename_i v
    cases v <;> try rfl
    · simp only []
      cases evOpd tm y <;> try rfl
      rename_i v
      cases v <;> try rfl
      rename_i i x j y
      simp only [chk_eq, sCmp]
      cases i == j <;> rfl
    · simp only []
      cases evOpd tm y <;> try rfl
      rename_i v
      cases v <;> rfl
  | eqB neg x y =>
    simp only [evOp, step, op_eqB, opdK_eq]
    cases evOpd tm x <;> try rfl
    rename_i v
    cases v <;> try rfl
    simp only []
    cases evOpd tm y <;> try rfl
    rename_i v
    cases v <;> try rfl
    cases neg <;> rfl
  | eqP neg x y =>
    simp only [evOp, step, op_eqP, opdK_eq]
    cases evOpd tm x <;> try rfl
    · rename_i v
      cases v <;> try rfl
      simp only []
      cases evOpd tm y <;> try rfl
      rename_i v
      cases v <;> rfl
    · simp only []
      cases evOpd tm y <;> try rfl
      rename_i v
      cases v <;> rfl
  | eqAgg neg kinds x y =>
    simp only [evOp, step, op_eqAgg, opdK_eq, aggK_eq]
    cases (evOpd tm x).aggs? <;> try rfl
    simp only []
    cases (evOpd tm y).aggs? <;> try rfl
    simp only [eqCells_eq, fin_bind, ifB_eq]
    rename_i cs ds
    cases sEqCells kinds cs ds <;> rfl
  | not x => simp only [evOp, step, op_not, opdK_eq]; cases evOpd tm x <;> try rfl
             rename_i v; cases v <;> rfl
  | neg x => simp only [evOp, step, op_neg, opdK_eq]; cases evOpd tm x <;> try rfl
             rename_i v; cases v <;> rfl
  | conv i x => simp only [evOp, step, op_conv, opdK_eq]; cases evOpd tm x <;> try rfl
                rename_i v; cases v <;> rfl
  | bytesOf x => simp only [evOp, step, op_bytesOf, opdK_eq]; cases evOpd tm x <;> try rfl
                 rename_i v; cases v <;> try rfl
                 simp only [mapK_eq, newK_eq, fin, apply_new]
  | strOf x =>
    simp only [evOp, step, op_strOf, opdK_eq, objK_eq]
    cases evOpd tm x <;> try rfl
    · rename_i v; cases v <;> rfl
    · rename_i es a off len
      simp only []
      cases hp[a]? with
      | none => rfl
      | some o => cases o <;> try rfl
                  simp only [dropK_eq, takeN_eq, strCells_eq, fin_bind]
                  rename_i cs
                  cases sTake len (cs.drop off) with
                  | none => rfl
                  | some cs => simp only []; cases sStr cs <;> rfl
  | makeFunc fn a b => simp only [evOp, step, op_makeFunc, opdsK_eq]; rfl
  | makeMap => simp only [evOp, step, op_makeMap, newK_eq, fin, apply_new]
  | insert kk m ke v =>
    simp only [evOp, step, op_insert, opdK_eq, objK_eq]
    cases evOpd tm m <;> try rfl
    rename_i r
    cases evOpd tm ke
    case p kv =>
      simp only []
      cases h : hp[r]? with
      | none => rfl
      | some o =>
        cases o <;> try rfl
        rename_i es
        simp only [mapFind_eq, chk_eq]
        cases keyIs kk kv with
        | false => rfl
        | true =>
          simp only [if_true, Bool.true_eq_false, if_false]
          cases sFind kv 0 es with
          | none => rfl
          | some r => cases r <;> simp [setK_eq, appK_eq, fin, apply_set]
    all_goals
      simp only []
      cases h : hp[r]? with
      | none => rfl
      | some o => cases o <;> rfl
  | lookup kk z agg ok m ke =>
    simp only [evOp, step, op_lookup, opdK_eq, objK_eq]
    cases evOpd tm m <;> try rfl
    rename_i r
    cases evOpd tm ke
    case p kv =>
      simp only []
      cases h : hp[r]? with
      | none => rfl
      | some o =>
        cases o <;> try rfl
        rename_i es
        simp only [mapFind_eq, chk_eq]
        cases keyIs kk kv with
        | false => rfl
        | true =>
          simp only [if_true, Bool.true_eq_false, if_false]
          cases sFind kv 0 es with
          | none => rfl
          | some r =>
            cases r with
            | none =>
              simp only [mapK_eq, ofCellsK_eq, fin_bind]
              cases sOf agg (z.map AV.p) <;> cases ok <;> rfl
            | some r => cases ok <;> rfl
    all_goals
      simp only []
      cases h : hp[r]? with
      | none => rfl
      | some o => cases o <;> rfl
  | makeSlice z bytes l c =>
    simp only [evOp, step, op_makeSlice, opdK_eq]
    cases evOpd tm l <;> try rfl
    rename_i v; cases v <;> try rfl
    simp only []
    cases evOpd tm c <;> try rfl
    rename_i v; cases v <;> try rfl
    simp only [chk_eq, mapK_eq, newK_eq]
    rename_i l _ c
    by_cases h1 : 0 ≤ l <;> by_cases h2 : l ≤ c <;> by_cases h3 : c * bytes ≤ 1099511627776 <;> simp [h1, h2, h3, fin, apply_new]
  | sliceStr x lo hi =>
    simp only [evOp, step, op_sliceStr, opdK_eq, opdO_eq, natOf_eq, chk_eq]
    cases evOpd tm x <;> try rfl
    rename_i v; cases v <;> try rfl
    rename_i s
    simp only []
    cases sNat 0 (lo.map (evOpd tm)) <;> try rfl
    rename_i l
    simp only []
    cases sNat s.length (hi.map (evOpd tm)) <;> try rfl
    rename_i h
    by_cases h1 : l ≤ h <;> by_cases h2 : h ≤ s.length <;> simp [h1, h2, fin, pureE, apply_none]
  | slice esz x lo hi =>
    simp only [evOp, step, op_slice, opdK_eq, opdO_eq, natOf_eq, chk_eq]
    cases evOpd tm x <;> try rfl
    · rename_i v; cases v <;> try rfl
      rename_i es s
      simp only []
      cases sNat 0 (lo.map (evOpd tm)) <;> try rfl
      rename_i l
      simp only []
      cases sNat s.length (hi.map (evOpd tm)) <;> try rfl
      rename_i h
      by_cases h0 : es = esz <;> by_cases h1 : l ≤ h <;> by_cases h2 : h ≤ s.length <;> simp [h0, h1, h2, fin, pureE, apply_none]
    · rename_i es a off s
      simp only []
      cases sNat 0 (lo.map (evOpd tm)) <;> try rfl
      rename_i l
      simp only []
      cases sNat s (hi.map (evOpd tm)) <;> try rfl
      rename_i h
      by_cases h0 : es = esz <;> by_cases h1 : l ≤ h <;> by_cases h2 : h ≤ s <;> simp [h0, h1, h2, fin, pureE, apply_none]
  | sliceArr n esz x lo hi =>
    simp only [evOp, step, op_sliceArr, opdK_eq, opdO_eq, natOf_eq, chk_eq, objK_eq]
    cases evOpd tm x <;> try rfl
    rename_i a off
    simp only []
    cases hp[a]? with
    | none => rfl
    | some o =>
      cases o <;> try rfl
      rename_i cs
      simp only []
      cases sNat 0 (lo.map (evOpd tm)) <;> try rfl
      rename_i l
      simp only []
      cases sNat n (hi.map (evOpd tm)) <;> try rfl
      rename_i h
      by_cases h0 : off + n * esz ≤ cs.length <;> by_cases h1 : l ≤ h <;> by_cases h2 : h ≤ n <;> simp [h0, h1, h2, fin, pureE, apply_none]
  | fieldAddr x off => simp only [evOp, step, op_fieldAddr, opdK_eq, dropK_eq]; cases evOpd tm x <;> rfl
  | field x off n agg =>
    simp only [evOp, step, op_field, opdK_eq, aggK_eq]
    cases (evOpd tm x).aggs? <;> try rfl
    simp only [dropK_eq, takeN_eq, ofCellsK_eq, fin_bind]
    rename_i cs
    cases sTake n (cs.drop off) with
    | none => rfl
    | some cs => simp only []; cases sOf agg cs <;> rfl
  | indexAddr esz x i =>
    simp only [evOp, step, op_indexAddr, opdK_eq, chk_eq, idxK]
    cases evOpd tm x <;> try rfl
    · rename_i v; cases v <;> try rfl
      simp only []
      cases evOpd tm i <;> try rfl
      rename_i v; cases v <;> try rfl
      rename_i es rows _ n
      by_cases h0 : es = esz <;> cases hi : idx rows n <;> simp [h0, hi, fin, pureE, apply_none]
    · simp only []
      cases evOpd tm i <;> try rfl
      rename_i v; cases v <;> try rfl
      rename_i es a off len _ n
      by_cases h1 : 0 ≤ n <;> by_cases h2 : n < len <;> simp [h1, h2, fin, pureE, apply_none]
  | indexArr len esz x i =>
    simp only [evOp, step, op_indexArr, opdK_eq, chk_eq]
    cases evOpd tm x <;> try rfl
    all_goals
      simp only []
      cases evOpd tm i <;> try rfl
      rename_i v; cases v <;> try rfl
      rename_i n
      by_cases h1 : 0 ≤ n <;> by_cases h2 : n < len <;> simp [h1, h2, fin, pureE, apply_none]
  | indexStr x i =>
    simp only [evOp, step, op_indexStr, opdK_eq, idxK]
    cases evOpd tm x <;> try rfl
    rename_i v; cases v <;> try rfl
    simp only []
    cases evOpd tm i <;> try rfl
    rename_i v; cases v <;> try rfl
    simp only [fin_bind]
    rename_i s _ n
    cases idx s n <;> rfl
  | extract x i =>
    simp only [evOp, step, op_extract, opdK_eq]
    cases evOpd tm x <;> try rfl
    · rename_i v; cases v <;> try rfl
      rename_i vs
      simp only [fin_bind]
      cases vs[i]? <;> rfl
    · rename_i vs
      simp only [fin_bind]
      cases vs[i]? <;> rfl
  | lenStr x =>
    simp only [evOp, step, op_lenStr, opdK_eq]
    cases evOpd tm x <;> try rfl
    rename_i v; cases v <;> rfl
  | lenSl x =>
    simp only [evOp, step, op_lenSl, opdK_eq]
    cases evOpd tm x <;> try rfl
    rename_i v; cases v <;> rfl
  | lenMap x =>
    simp only [evOp, step, op_lenMap, opdK_eq, objK_eq]
    cases evOpd tm x <;> try rfl
    · rename_i v; cases v <;> rfl
    · rename_i r
      simp only []
      cases hp[r]? with
      | none => rfl
      | some o => cases o <;> rfl
  | append esz bytes s x => simp only [evOp, step]; exact op_append_eq ..
  | appendT esz bytes s x =>
    simp only [evOp, step, op_appendT, opdK_eq, op_append_eq, sAppT]
    cases hs : evOpd tm s <;> try rfl
    rename_i es a off len
    simp only [objK_eq, chk_eq, takeK_eq, setK_eq]
    cases hp[a]? with
    | none => rfl
    | some o =>
      cases o <;> try rfl
      rename_i cs
      simp only []
      by_cases h0 : off + len * esz ≤ cs.length
      · have h1 : Nat.ble (off + len * esz) cs.length = true := by simpa using h0
        rw [h1, if_pos h0, if_pos rfl]
        rw [List.length_set]
        cases hq : sApp (hp.set a (.cells (cs.take (off + len * esz)))) hp.length esz bytes (.slice es a off len) (evOpd tm x) with
        | none => rfl
        | some q =>
          obtain ⟨v, e⟩ := q
          show k v (e.apply (hp.set a (.cells (cs.take (off + len * esz)))) (hp.set a (.cells (cs.take (off + len * esz)))).length) = k v ((e.pre a (.cells (cs.take (off + len * esz)))).apply hp hp.length)
          rw [pre_apply (app_set hq), List.length_set]
      · have h1 : Nat.ble (off + len * esz) cs.length = false := by rw [← Bool.not_eq_true, Nat.ble_eq]; exact h0
        rw [h1, if_neg h0]; rfl
  | copyB d s =>
    have hc : ∀ new, (match evOpd tm d with
        | .p .nilSlice => k (.p (.int .i64 0)) hp
        | .slice es a off len => objK E hp a fun
          | .cells cs => chk E (Nat.beq es 1 && (Nat.ble (off + len) cs.length && Nat.ble 1 len))
            (takeK len new fun new => lenK new fun n => spliceK cs off new fun cs => setK hp a (.cells cs) fun hp => k (.p (.int .i64 n)) hp)
          | _ => E.fail
        | _ => E.fail) = fin E hp k (sCopy hp (evOpd tm d) new) := fun new => by
      simp only [objK_eq, chk_eq, takeK_eq, lenK_eq, spliceK_eq, setK_eq, sCopy]
      cases evOpd tm d <;> try rfl
      · rename_i v; cases v <;> rfl
      · rename_i es a off len
        simp only []
        cases hp[a]? with
        | none => rfl
        | some o =>
          cases o <;> try rfl
          rename_i cs
          simp only []
          by_cases h1 : es = 1 <;> by_cases h2 : off + len ≤ cs.length <;> by_cases h3 : 1 ≤ len <;> simp [h1, h2, h3, fin, apply_set] <;> omega
    simp only [evOp, step, op_copyB, opdK_eq, srcK_eq]
    cases sSrc hp (evOpd tm s) with
    | none => rfl
    | some new => exact hc new
  | max x y =>
    simp only [evOp, step, op_max, opdK_eq, ifB_eq]
    cases evOpd tm x <;> try rfl
    rename_i v; cases v <;> try rfl
    simp only []
    cases evOpd tm y <;> try rfl
    rename_i v; cases v <;> try rfl
    simp [fin, pureE, apply_none]
  | min x y =>
    simp only [evOp, step, op_min, opdK_eq, ifB_eq]
    cases evOpd tm x <;> try rfl
    rename_i v; cases v <;> try rfl
    simp only []
    cases evOpd tm y <;> try rfl
    rename_i v; cases v <;> try rfl
    simp [fin, pureE, apply_none]
end
end
end Go.Av
