/- An abstract machine for the modelled code, and what its runs say of real calls. Part of a proof of a given statement: for every input the law returns true and the arguments read as before; no condition beyond the given row. -/
import Derived.Test.YtkemhhfbpniioaaGreatDoorAvSim7
import Derived.IntWalk
namespace Go.Av
noncomputable section
section
variable {P : Program} {Gl : Nat → Option (List PV)} {θ : Th} {H : List AObj} {w : World} {a : Act} {tm : List AV} {S : Nat → Prop} {na : Nat}

theorem foldl_set (off : Nat) : ∀ (vs : List Value) (i : Nat) (cs : Array Value), off + i + vs.length ≤ cs.size →
    ((vs.zipIdx i).foldl (fun cs (p : Value × Nat) => cs.setIfInBounds (off + p.2) p.1) cs).size = cs.size ∧
    ∀ j, ((vs.zipIdx i).foldl (fun cs (p : Value × Nat) => cs.setIfInBounds (off + p.2) p.1) cs)[j]? = if off + i ≤ j ∧ j < off + i + vs.length then vs[j - (off + i)]? else cs[j]?
  | [], i, cs, _ => ⟨rfl, fun j => by
    have : ¬ (off + i ≤ j ∧ j < off + i + ([] : List Value).length) := by simp
    rw [if_neg this]; rfl⟩
  | v :: vs, i, cs, h => by
    simp only [List.length_cons] at h
    obtain ⟨h1, h2⟩ := foldl_set off vs (i + 1) (cs.setIfInBounds (off + i) v) (by simp; omega)
    rw [List.zipIdx_cons, List.foldl_cons]
    refine ⟨h1.trans (by simp), fun j => ?_⟩
    rw [h2]
    simp only [List.length_cons]
    by_cases hj : j = off + i
    · subst hj
      rw [if_neg (by omega), if_pos (by omega), Array.getElem?_setIfInBounds_self]
      rw [if_pos (by omega), Nat.sub_self]; rfl
    · by_cases hr : off + (i + 1) ≤ j ∧ j < off + (i + 1) + vs.length
      · rw [if_pos hr, if_pos (by omega)]
        obtain ⟨m, hm⟩ : ∃ m, j - (off + i) = m + 1 := ⟨j - (off + i) - 1, by omega⟩
        have : j - (off + (i + 1)) = m := by omega
        rw [hm, this]; rfl
      · rw [if_neg hr, if_neg (by omega), Array.getElem?_setIfInBounds_ne (fun e => hj e.symm)]

theorem fold_list (off : Nat) (vs : List Value) (cs : Array Value) (h : off + vs.length ≤ cs.size) :
    ((vs.zipIdx 0).foldl (fun cs (p : Value × Nat) => cs.setIfInBounds (off + p.2) p.1) cs).toList = cs.toList.take off ++ (vs ++ cs.toList.drop (off + vs.length)) := by
  obtain ⟨h1, h2⟩ := foldl_set off vs 0 cs (by omega)
  apply List.ext_getElem?
  intro j
  rw [Array.getElem?_toList, h2]
  simp only [Nat.add_zero]
  have hcs : off ≤ cs.toList.length := by simp; omega
  by_cases hj1 : j < off
  · rw [if_neg (by omega), List.getElem?_append_left (by simp; omega), List.getElem?_take, if_pos hj1]; simp
  · rw [List.getElem?_append_right (by rw [List.length_take]; omega)]
    have e1 : j - (cs.toList.take off).length = j - off := by rw [List.length_take]; omega
    rw [e1]
    by_cases hj2 : j - off < vs.length
    · rw [if_pos (by omega), List.getElem?_append_left hj2]
    · rw [if_neg (by omega), List.getElem?_append_right (by omega), List.getElem?_drop]
      have : off + vs.length + (j - off - vs.length) = j := by omega
      rw [this]; simp

theorem splice_rel {cs v : List AV} {vs us : List Value} (h : RelVs θ S w cs vs) (hv : RelVs θ S w v us) (off : Nat) : RelVs θ S w (sSplice cs off v) (vs.take off ++ (us ++ vs.drop (off + us.length))) := by
  unfold sSplice
  rw [hv.1]
  exact (h.take off).append (hv.append (h.drop _))

theorem fill_size (place : Nat → Option (Nat × Nat)) : ∀ (l : List (Nat × Value)) (C D : Array Value), Instr.fill place C l = some D → D.size = C.size
  | [], C, D, h => by simp [Instr.fill] at h; rw [h]
  | (i, v) :: r, C, D, h => by
    simp only [Instr.fill] at h
    cases hp : place i with
    | none => simp [hp] at h
    | some om =>
      obtain ⟨o, m⟩ := om
      simp only [hp] at h
      split at h
      · cases h
      · rename_i hc
        rw [fill_size place r _ D h, ← Array.foldl_toList]
        have h1 := (foldl_set o v.cells.toList 0 C (by simp at hc; simp; omega)).1
        have hz : (v.cells.zipIdx).toList = v.cells.toList.zipIdx 0 := by simp
        rw [hz]; exact h1

/-- the parts of a literal, laid -/
theorem fill_rel (hT : TmOk θ (Free θ H) w tm a) (place : Nat → Option (Nat × Nat)) : ∀ (ps : List (Nat × Operand)) (qs : List (Nat × Nat × Opd)) (cells : List AV) (C : Array Value) (out : List AV), chkParts place ps qs = true →
    RelVs θ (Free θ H) w cells C.toList → sFill tm cells qs = some out →
    ∃ D, Instr.fill place C (ps.map fun (i, x) => (i, a.eval x)) = some D ∧ RelVs θ (Free θ H) w out D.toList
  | [], [], cells, C, out, _, hc, hs => by
    simp only [sFill, Option.some.injEq] at hs
    subst hs
    exact ⟨C, rfl, hc⟩
  | (i, x) :: ps, (off, n, y) :: qs, cells, C, out, hk, hc, hs => by
    simp only [chkParts, Bool.and_eq_true] at hk
    obtain ⟨⟨h1, h2⟩, h3⟩ := hk
    cases hp : place i with
    | none => simp [hp] at h1
    | some om =>
      obtain ⟨o', m⟩ := om
      simp [hp] at h1
      obtain ⟨rfl, rfl⟩ := h1
      simp only [sFill] at hs
      cases hv : (evOpd tm y).cells? with
      | none => simp [hv] at hs
      | some v =>
        simp only [hv] at hs
        split at hs
        · rename_i hle
          obtain ⟨hl, hle⟩ := hle
          have hr := cells_rel (opd_rel hT h2) hv
          have hcl := hc.1
          have hrl := hr.1
          simp at hcl hrl
          have hf := fold_list o' (a.eval x).cells.toList C (by simp; omega)
          have hz : ((a.eval x).cells.zipIdx).toList = (a.eval x).cells.toList.zipIdx 0 := by simp
          obtain ⟨D, hd1, hd2⟩ := fill_rel hT place ps qs (sSplice cells o' v) ((a.eval x).cells.zipIdx.foldl (fun cs (c, j) => cs.setIfInBounds (o' + j) c) C) out h3 (by
            have e : ((a.eval x).cells.zipIdx.foldl (fun cs (c, j) => cs.setIfInBounds (o' + j) c) C).toList = C.toList.take o' ++ ((a.eval x).cells.toList ++ C.toList.drop (o' + (a.eval x).cells.toList.length)) := by
              rw [← hf, ← Array.foldl_toList, hz]
            rw [e]
            exact splice_rel hc hr o') hs
          refine ⟨D, ?_, hd2⟩
          simp only [List.map_cons, Instr.fill, hp]
          rw [if_neg (by simp; omega)]
          exact hd1
        · cases hs
  | [], _ :: _, _, _, _, h, _, _ => by simp [chkParts] at h
  | _ :: _, [], _, _, _, h, _, _ => by simp [chkParts] at h

theorem sim_build (hT : TmOk θ (Free θ H) w tm a) (hH : Hp θ H w) {t : TypeId} {z : List PV} {ps : Array (Nat × Operand)} {qs : List (Nat × Nat × Opd)} (hz : zeroIs P t z = true)
    (hd : (∃ fs : Array Field, P.underlying t = some (.struct fs) ∧ (∀ f ∈ fs, (P.info? f.type).isSome = true) ∧ chkParts (fun i => fs[i]?.map fun f => (f.offset, sizeD P f.type)) ps.toList qs = true) ∨
      ∃ n e, P.underlying t = some (.array n e) ∧ (P.info? e).isSome = true ∧ chkParts (fun i => some (i * sizeD P e, sizeD P e)) ps.toList qs = true)
    {v : AV} {e : Eff} (hs : step Gl tm H na (.build z qs) = some (v, e)) {o : Oper} (ho : o.op = .build t ps) : Out2 θ H w na v e ((execOp a.eval o).run P w) := by
  simp only [step] at hs
  cases hf : sFill tm (z.map .p) qs with
  | none => simp [hf] at hs
  | some out =>
    simp only [hf, Option.bind_some, pureE, Option.some.injEq, Prod.mk.injEq] at hs
    obtain ⟨rfl, rfl⟩ := hs
    obtain ⟨i, zv, hi, hz1, hz2⟩ := zeroIs_spec hz
    have hz3 := run_zero (P := P) hi hz1 w
    have szr : ∀ (u : TypeId) (w : World), (P.info? u).isSome = true → (sizeOf u).run P w = .ok (sizeD P u) w := by
      intro u w hu
      cases hiu : P.info? u with
      | none => simp [hiu] at hu
      | some iu => simp [sizeOf, typeInfo, hiu, sizeD]
    rcases hd with ⟨fs, ht, hfs, hck⟩ | ⟨n, el, ht, hel, hck⟩
    · obtain ⟨D, hD1, hD2⟩ := fill_rel hT _ _ _ _ zv.cells out hck (zero_rel hz2) hf
      refine out2_pure (cv := .agg D) hH ?_ (by have := ofCells_rel hD2; simpa using this)
      have hm : ∀ (l : List Field), (∀ f ∈ l, (P.info? f.type).isSome = true) → (l.mapM (m := Sem) fun (f : Field) => do pure (f.offset, ← sizeOf f.type)).run P w = .ok (l.map fun (f : Field) => (f.offset, sizeD P f.type)) w := by
        intro l
        induction l with
        | nil => intro _; simp
        | cons f l ih =>
          intro hl
          have h1 := szr f.type w (hl f (by simp))
          have h2 := ih (fun g hg => hl g (by simp [hg]))
          simp [h1, Result.andThen] at h2 ⊢
          rw [h2]
      have hm' : (fs.mapM (m := Sem) fun (f : Field) => do pure (f.offset, ← sizeOf f.type)).run P w = .ok (fs.map fun (f : Field) => (f.offset, sizeD P f.type)) w := by
        have h1 := hm fs.toList (fun f hf => hfs f (by simpa using hf))
        rw [Array.mapM_eq_mapM_toList, Sem.run_map, h1]
        show Result.ok _ w = _
        congr 1
        apply Array.ext'
        simp
      have hp : (fun (i : Nat) => (fs.map fun (f : Field) => (f.offset, sizeD P f.type))[i]?) = (fun (i : Nat) => fs[i]?.map fun (f : Field) => (f.offset, sizeD P f.type)) := by
        funext i; simp
      have hps : (ps.map fun (i, x) => (i, a.eval x)).toList = ps.toList.map fun (i, x) => (i, a.eval x) := by simp
      have hD1' : Instr.fill (fun i => (fs.map fun (f : Field) => (f.offset, sizeD P f.type))[i]?) zv.cells (ps.map fun (i, x) => (i, a.eval x)).toList = some D := by rw [hp, hps]; exact hD1
      simp only [execOp, ho, Instr.build, Sem.run_bind, hz3, Result.andThen, run_underlying ht, hm', hD1', Sem.run_pure]
    · obtain ⟨D, hD1, hD2⟩ := fill_rel hT _ _ _ _ zv.cells out hck (zero_rel hz2) hf
      refine out2_pure (cv := .agg D) hH ?_ (by have := ofCells_rel hD2; simpa using this)
      have h1 := szr el w hel
      have hps : (ps.map fun (i, x) => (i, a.eval x)).toList = ps.toList.map fun (i, x) => (i, a.eval x) := by simp
      have hD1' : Instr.fill (fun i => some (i * sizeD P el, sizeD P el)) zv.cells (ps.map fun (i, x) => (i, a.eval x)).toList = some D := by rw [hps]; exact hD1
      simp only [execOp, ho, Instr.build, Sem.run_bind, hz3, Result.andThen, run_underlying ht, h1, hD1', Sem.run_pure]

theorem replicate_flat (z : List Value) (n : Nat) (hz : 0 < z.length) : ((Array.range (n * z.length)).map (fun i => z.toArray[i % z.length]!)).toList = (List.replicate n z).flatten := by
  have hu : ∀ r ∈ List.replicate n z, r.length = z.length := fun r hr => by rw [List.eq_of_mem_replicate hr]
  obtain ⟨h1, h2⟩ := flatten_get hz (List.replicate n z) hu
  rw [List.length_replicate] at h1
  apply List.ext_getElem?
  intro k
  rw [h2]
  simp only [Array.toList_map, Array.toList_range, List.getElem?_map]
  by_cases hk : k < n * z.length
  · have hd : k / z.length < n := by rw [Nat.div_lt_iff_lt_mul hz]; exact hk
    have hm := Nat.mod_lt k hz
    rw [List.getElem?_range hk, List.getElem?_replicate, if_pos hd]
    simp only [Option.map_some, Option.bind_some]
    rw [List.getElem?_eq_getElem hm, getElem!_pos z.toArray _ (by simpa using hm)]
    simp
  · have hd : ¬ k / z.length < n := by rw [Nat.div_lt_iff_lt_mul hz]; exact hk
    rw [List.getElem?_eq_none (by simpa using Nat.le_of_not_lt hk), List.getElem?_replicate, if_neg hd]
    rfl

theorem repl_rel {z : List PV} {vs : List Value} (h : RelVs θ S w (z.map .p) vs) : ∀ n : Nat, RelVs θ S w ((List.replicate n z).flatten.map .p) (List.replicate n vs).flatten
  | 0 => by simpa using RelVs.nil
  | n + 1 => by
    rw [List.replicate_succ, List.replicate_succ, List.flatten_cons, List.flatten_cons, List.map_append]
    exact h.append (repl_rel h n)

theorem sim_buildSlice (hT : TmOk θ (Free θ H) w tm a) (hH : Hp θ H w) (hna : AlOk θ H na) {t d : TypeId} {z : List PV} {len esz : Nat} {ps : Array (Nat × Operand)} {qs : List (Nat × Nat × Opd)} (ht : P.underlying t = some (.slice d)) (hsz : szIs P d esz = true)
    (hz : zeroIs P d z = true) (hzl : z.length = esz) (he : 0 < esz) (hlim : len * esz ≤ 1048576) (hck : chkParts (fun i => some (i * esz, esz)) ps.toList qs = true)
    {v : AV} {e : Eff} (hs : step Gl tm H na (.buildSlice z len esz qs) = some (v, e)) {o : Oper} (ho : o.op = .buildSlice t len ps) : Out2 θ H w na v e ((execOp a.eval o).run P w) := by
  simp only [step] at hs
  cases hf : sFill tm ((List.replicate len z).flatten.map .p) qs with
  | none => rw [hf] at hs; cases hs
  | some out =>
    simp only [hf, Option.map_some, Option.some.injEq, Prod.mk.injEq] at hs
    obtain ⟨rfl, rfl⟩ := hs
    obtain ⟨i, zv, hi, hz1, hz2⟩ := zeroIs_spec hz
    have hz3 := run_zero (P := P) hi hz1 w
    have hs1 := run_sizeOf hsz w
    have hzr := zero_rel (θ := θ) (S := Free θ H) (w := w) hz2
    have hzl' : zv.cells.toList.length = esz := by rw [hzr.1]; simpa using hzl
    have hpos : 0 < zv.cells.toList.length := by omega
    have hflat := replicate_flat zv.cells.toList len hpos
    rw [hzl'] at hflat
    obtain ⟨D, hD1, hD2⟩ := fill_rel hT _ _ _ _ ((Array.range (len * esz)).map (fun i => zv.cells[i % zv.cells.size]!)) out hck (by
      have e : ((Array.range (len * esz)).map (fun i => zv.cells[i % zv.cells.size]!)).toList = (List.replicate len zv.cells.toList).flatten := by
        rw [← hflat]
        have : zv.cells.size = esz := by simpa using hzl'
        rw [this]
      rw [e]
      exact repl_rel hzr len) hf
    have hD1' : Instr.fill (fun i => some (i * esz, esz)) ((Array.range (len * esz)).map (fun i => zv.cells[i % zv.cells.size]!)) (ps.map fun (i, x) => (i, a.eval x)).toList = some D := by
      have hps : (ps.map fun (i, x) => (i, a.eval x)).toList = ps.toList.map fun (i, x) => (i, a.eval x) := by simp
      rw [hps]; exact hD1
    have hDs : D.size = len * esz := by
      have h1 := fill_size _ _ _ _ hD1'
      rw [h1]; simp
    have hnot : ¬ (len * esz > 2 ^ 24) := by omega
    refine out2_row (n := w.drawn) (t := d) (cv := .slice (some ⟨w.heap.size, 0, none⟩) len len) hH hna [] hD2 ?_ (fun θ' S w' h => .slice _ _ _ _ _ _ _ h he (Nat.le_refl _) (by simp; omega) (.inl rfl))
    have hfin : Result.ok (Next.value (.slice (some ⟨w.heap.size, 0, none⟩) len len)) { w with heap := w.heap.push (.cells D d) } = .ok (.value (.slice (some ⟨w.heap.size, 0, none⟩) len len)) { w with heap := w.heap.push (.cells (D.toList ++ []).toArray d), drawn := w.drawn } := by simp
    rw [← hfin]
    by_cases h0 : len * esz = 0
    · have hD0 : Instr.fill (fun i => some (i * esz, esz)) ((Array.range (len * esz)).map (fun i => (#[] : Array Value)[i % (#[] : Array Value).size]!)) (ps.map fun (i, x) => (i, a.eval x)).toList = some D := by
        rw [← hD1', h0, show Array.range 0 = #[] from by simp, Array.map_empty, Array.map_empty]
      simp only [execOp, ho, Instr.buildSlice, Sem.run_bind, run_underlying ht, hs1, Result.andThen, if_neg hnot, if_pos h0, Sem.run_pure, hD0, newRow, run_newObj]
    · simp only [execOp, ho, Instr.buildSlice, Sem.run_bind, run_underlying ht, hs1, Result.andThen, hz3, hD1', if_neg hnot, if_neg h0, Sem.run_pure, newRow, run_newObj]

theorem sim_makeMap (hH : Hp θ H w) (hna : AlOk θ H na) {t : TypeId} {v : AV} {e : Eff} (hs : step Gl tm H na .makeMap = some (v, e)) {o : Oper} (ho : o.op = .makeMap t none) :
    Out2 θ H w na v e ((execOp a.eval o).run P w) := by
  simp only [step, Option.some.injEq, Prod.mk.injEq] at hs
  obtain ⟨rfl, rfl⟩ := hs
  refine out2_new (n := w.drawn) (cv := .map (some w.heap.size)) hH hna (.map #[] 0) (.map []) ⟨w.heap.size, 0, 0⟩ rfl ?_ (fun θ' S w' h => .map na _ h) (fun θ' S' h1 h2 => ?_)
  · simp [execOp, ho, Instr.makeMap, Result.andThen]
  · exact ⟨#[], 0, by simp, by simp, fun i k v h => by simp at h⟩

theorem wrap_small (n : Int) (h0 : 0 ≤ n) (h1 : n ≤ 1099511627776) : IntKind.i64.wrap n = n :=
  IntWalk.i64_in n (by omega)

theorem sim_makeSlice (hT : TmOk θ (Free θ H) w tm a) (hH : Hp θ H w) (hna : AlOk θ H na) {t d : TypeId} {z : List PV} {bytes : Nat} {l c : Operand} {l' c' : Opd} (ht : P.underlying t = some (.slice d)) (hz : zeroIs P d z = true)
    (hsz : szIs P d z.length = true) (hby : bytesIs P d bytes = true) (hzl : 0 < z.length) (hbp : 0 < bytes) (hl : chkOpd l l' = true) (hc : chkOpd c c' = true)
    {v : AV} {e : Eff} (hs : step Gl tm H na (.makeSlice z bytes l' c') = some (v, e)) {o : Oper} (ho : o.op = .makeSlice t l c) : Out2 θ H w na v e ((execOp a.eval o).run P w) := by
  simp only [step] at hs
  have hrl := opd_rel hT hl
  have hrc := opd_rel hT hc
  generalize evOpd tm l' = vl at hs hrl
  generalize evOpd tm c' = vc at hs hrc
  split at hs
  · rename_i kl n kc m
    split at hs
    · rename_i hb
      obtain ⟨b1, b2, b3⟩ := hb
      simp only [Option.some.injEq, Prod.mk.injEq] at hs
      obtain ⟨rfl, rfl⟩ := hs
      obtain ⟨i, zv, hi, hz1, hz2⟩ := zeroIs_spec hz
      have hz3 := run_zero (P := P) hi hz1 w
      have hs1 := run_sizeOf hsz w
      have hby' : i.bytes = bytes := by
        unfold bytesIs at hby
        simp [hi] at hby; exact hby
      have hzr := zero_rel (θ := θ) (S := Free θ H) (w := w) hz2
      have hzl' : zv.cells.toList.length = z.length := by rw [hzr.1]; simp
      have hpos : 0 < zv.cells.toList.length := by omega
      have hm40 : m ≤ 1099511627776 := by
        have : m * 1 ≤ m * bytes := Int.mul_le_mul_of_nonneg_left (by omega) (by omega)
        omega
      have w1 := wrap_small n b1 (by omega)
      have w2 := wrap_small m (by omega) hm40
      have hflat := replicate_flat zv.cells.toList m.toNat hpos
      rw [hzl'] at hflat
      have hsplit : (List.replicate m.toNat zv.cells.toList).flatten = (List.replicate n.toNat zv.cells.toList).flatten ++ (List.replicate (m.toNat - n.toNat) zv.cells.toList).flatten := by
        rw [← List.flatten_append, List.replicate_append_replicate]
        congr 2; omega
      have hcells : (Array.range (m.toNat * z.length)).map (fun i => zv.cells[i % zv.cells.size]!) = ((List.replicate n.toNat zv.cells.toList).flatten ++ (List.replicate (m.toNat - n.toNat) zv.cells.toList).flatten).toArray := by
        apply Array.ext'
        rw [← hsplit, ← hflat]
        have : zv.cells.size = z.length := by simpa using hzl'
        rw [this]
      have hlen1 : ∀ k : Nat, ((List.replicate k zv.cells.toList).flatten).length = k * z.length := by
        intro k
        have := (flatten_get hzl (List.replicate k zv.cells.toList) (fun r hr => by rw [List.eq_of_mem_replicate hr, hzl'])).1
        rw [this, List.length_replicate]
      refine out2_row (n := w.drawn) (t := d) (cv := .slice (some ⟨w.heap.size, 0, none⟩) n.toNat m.toNat) hH hna (List.replicate (m.toNat - n.toNat) zv.cells.toList).flatten (repl_rel hzr n.toNat) ?_
        (fun θ' S w' h => .slice _ _ _ _ _ _ _ h hzl (by omega) (by
          rw [hlen1, hlen1, ← Nat.add_mul]
          have : n.toNat + (m.toNat - n.toNat) = m.toNat := by omega
          rw [this]; simp) (.inl rfl))
      rw [← hcells]
      have t1 : ¬ (281474976710656 < (bytes : Int) * m) := by rw [Int.mul_comm]; omega
      have t2 : ¬ m < 0 := by omega
      have t3 : ¬ n < 0 := by omega
      have t4 : ¬ m < n := by omega
      have e1 := relInt hrl
      have e2 := relInt hrc
      have hroom : ∀ b, (askRoom b).run P w = .ok () w := by
        intro b; unfold askRoom; split <;> rfl
      simp [execOp, ho, Instr.makeSlice, run_underlying ht, e1, e2, asInt, asIntOf, typeInfo, hi, hby', w1, w2, t1, t2, t3, t4, hroom, hs1, Result.andThen, newRow]
      by_cases h0 : m.toNat * z.length = 0
      · rw [if_pos h0, h0, show Array.range 0 = #[] from by simp, Array.map_empty, Array.map_empty]
      · rw [if_neg h0, hz3]
    · cases hs
  · cases hs

theorem modify_push (A : Array Obj) (x : Obj) (f : Obj → Obj) : (A.push x).modify A.size f = A.push (f x) := by
  apply Array.ext_getElem?
  intro i
  rw [Array.getElem?_modify, Array.getElem?_push, Array.getElem?_push]
  by_cases h : A.size = i
  · subst h; simp
  · rw [if_neg h, if_neg (fun e => h e.symm), if_neg (fun e => h e.symm)]

theorem bytes_rel {θ : Th} {S : Nat → Prop} {w : World} (s : List UInt8) : RelVs θ S w (s.map fun b => .p (.int .u8 b.toNat)) (s.map fun b => .int .u8 b.toNat) := by
  refine ⟨by simp, fun c hc => ?_, fun j x hx => ?_⟩
  · obtain ⟨b, _, rfl⟩ := List.mem_map.1 hc; rfl
  · rw [List.getElem?_map] at hx
    cases hb : s[j]? with
    | none => rw [hb] at hx; cases hx
    | some b =>
      rw [hb] at hx; cases hx
      have : (s.map fun b : UInt8 => Value.int .u8 b.toNat).getD j vundef = .int .u8 b.toNat := by
        rw [List.getD_eq_getElem?_getD, List.getElem?_map, hb]; rfl
      rw [this]; exact .p _ _ (.int _ _)

theorem sim_bytesOf (hT : TmOk θ (Free θ H) w tm a) (hH : Hp θ H w) (hna : AlOk θ H na) {s d el : TypeId} (hsrc : P.underlying s = some .string) (hd : P.underlying d = some (.slice el)) (hel : P.underlying el = some (.int .u8)) {x : Operand} {x' : Opd} (hx : chkOpd x x' = true)
    {v : AV} {e : Eff} (hs : step Gl tm H na (.bytesOf x') = some (v, e)) {o : Oper} (ho : o.op = .convert s d x) : Out2 θ H w na v e ((execOp a.eval o).run P w) := by
  simp only [step] at hs
  have hrx := opd_rel hT hx
  generalize evOpd tm x' = vx at hs hrx
  split at hs
  · rename_i b
    simp only [Option.some.injEq, Prod.mk.injEq] at hs
    obtain ⟨rfl, rfl⟩ := hs
    have e1 := relStr hrx
    let cap := grownCap w b.length 0 el
    have hcap : b.length ≤ cap := grownCap_le w b.length 0 el
    let vs : List Value := b.map fun b => .int .u8 b.toNat
    let extra : List Value := List.replicate (cap - b.length) (.int .u8 0)
    have hvs : vs.length = b.length := by simp [vs]
    have hC : ((⟨b⟩ : Array UInt8).map fun b => Value.int .u8 b.toNat) ++ Array.replicate (cap - b.length) (.int .u8 0) = (vs ++ extra).toArray := by
      apply Array.ext'
      simp [vs, extra]
    have hsz : (vs ++ extra).toArray.size = cap := by simp [vs, extra]; omega
    refine out2_new (n := w.drawn + 1) (cv := .slice (some ⟨w.heap.size, 0, none⟩) b.length cap) hH hna (.cells (vs ++ extra).toArray el (cap, cap + 1)) (.cells (b.map fun b => .p (.int .u8 b.toNat))) ⟨w.heap.size, 0, cap⟩ rfl ?_
      (fun θ' S w' h => .slice 1 na 0 b.length cap _ _ h (by omega) hcap (by simp) (.inl rfl)) (fun θ' S' h1 h2 => ?_)
    · have hq : (Question.appendCap b.length 0 el).forced = false := rfl
      have hcut : (Question.appendCap b.length 0 el).cut (w.tape w.drawn (.appendCap b.length 0 el)) = cap := rfl
      have hbs : (⟨⟨b⟩⟩ : ByteArray).size = b.length := rfl
      simp only [execOp, ho, e1, convert, Sem.run_bind, run_underlying hsrc, run_underlying hd, run_underlying hel, Result.andThen, Conv.stringToBytes, hbs, run_choose, hq, hcut, Bool.false_eq_true, if_false, newRow, run_newObj, hC, markStringish, run_shape]
      have hsh : ({ heap := w.heap.push (Obj.cells (vs ++ extra).toArray el), tape := w.tape, drawn := w.drawn + 1, os := w.os, output := w.output } : World).shape? w.heap.size = some (el, cap) := by
        simp only [World.shape?, Array.getElem?_push_size, hsz]
      simp only [Sem.run_pure, hsh, run_freeze, World.freeze, modify_push]
      simp
    · have hr := bytes_rel (θ := θ) (S := Free θ H) (w := w) b
      refine ⟨(vs ++ extra).toArray, el, (cap, cap + 1), by simp, hsz, fun j hj => by rw [hsz] at hj; simp; omega, by simp only [List.length_map]; rw [hsz]; omega, fun j v hj => ?_⟩
      have hlt := (List.getElem?_eq_some_iff.1 hj).1
      have hv' := hr.mono h1 h2
      have e : (vs ++ extra).toArray.getD (0 + j) vundef = vs.getD j vundef := by
        rw [Array.getD_eq_getD_getElem?, List.getD_eq_getElem?_getD]
        simp only [Nat.zero_add, List.getElem?_toArray]
        rw [List.getElem?_append_left (by rw [hvs]; simpa using hlt)]
      rw [e]
      refine ⟨hv'.2.2 j v hj, hr.2.1 _ ?_⟩
      rw [List.getD_eq_getElem?_getD, List.getElem?_eq_getElem (by rw [hvs]; simpa using hlt)]
      exact List.getElem_mem _
  · cases hs

end
end
end Go.Av
