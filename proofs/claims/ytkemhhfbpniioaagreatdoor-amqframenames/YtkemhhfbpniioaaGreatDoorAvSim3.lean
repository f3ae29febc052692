/- An abstract machine for the modelled code, and what its runs say of real calls. Part of a proof of a given statement: for every input the law returns true and the arguments read as before; no condition beyond the given row. -/
import Derived.Test.YtkemhhfbpniioaaGreatDoorAvSim2
namespace Go.Av
noncomputable section
section
variable {P : Program} {Gl : Nat → Option (List PV)} {θ : Th} {H : List AObj} {w : World} {a : Act} {tm : List AV} {S : Nat → Prop} {na : Nat}

theorem setCell_heap (w : World) (b o : Nat) (v : Value) (C : Array Value) (t : TypeId) (fz : Nat × Nat) (h : w.heap[b]? = some (.cells C t fz)) :
    (w.setCell ⟨b, o, none⟩ v).heap[b]? = some (.cells (C.setIfInBounds o v) t fz) := by
  have hlt := heap_lt h
  unfold World.setCell
  simp only [Array.getElem?_modify]
  simp [h]
theorem setCell_other (w : World) (b o c : Nat) (v : Value) (h : c ≠ b) : (w.setCell ⟨b, o, none⟩ v).heap[c]? = w.heap[c]? := by
  unfold World.setCell
  simp only [Array.getElem?_modify]
  simp [Ne.symm h]
theorem setCells_other (b c : Nat) (h : c ≠ b) : ∀ (vs : List Value) (o : Nat) (w : World), (w.setCells b o vs).heap[c]? = w.heap[c]?
  | [], _, _ => rfl
  | v :: r, o, w => by
    simp only [World.setCells]
    rw [setCells_other b c h r, setCell_other _ _ _ _ _ h]
theorem setCells_meta (b : Nat) : ∀ (vs : List Value) (o : Nat) (w : World), (w.setCells b o vs).heap.size = w.heap.size ∧ (w.setCells b o vs).os = w.os ∧ (w.setCells b o vs).tape = w.tape ∧ (w.setCells b o vs).output = w.output
  | [], _, _ => ⟨rfl, rfl, rfl, rfl⟩
  | v :: r, o, w => by
    simp only [World.setCells]
    obtain ⟨h1, h2, h3, h4⟩ := setCells_meta b r (o + 1) (w.setCell ⟨b, o, none⟩ v)
    refine ⟨h1.trans ?_, h2, h3, h4⟩
    simp [World.setCell]
theorem setCells_heap (b : Nat) (t : TypeId) (fz : Nat × Nat) : ∀ (vs : List Value) (o : Nat) (w : World) (C : Array Value), w.heap[b]? = some (.cells C t fz) → o + vs.length ≤ C.size →
    ∃ C', (w.setCells b o vs).heap[b]? = some (.cells C' t fz) ∧ C'.size = C.size ∧ ∀ j, C'.getD j vundef = if o ≤ j ∧ j < o + vs.length then vs.getD (j - o) vundef else C.getD j vundef
  | [], o, w, C, h, _ => ⟨C, h, rfl, fun j => by
      have : ¬ (o ≤ j ∧ j < o + ([] : List Value).length) := by simp
      rw [if_neg this]⟩
  | v :: r, o, w, C, h, hl => by
    simp only [List.length_cons] at hl
    obtain ⟨C', h1, h2, h3⟩ := setCells_heap b t fz r (o + 1) (w.setCell ⟨b, o, none⟩ v) (C.setIfInBounds o v) (setCell_heap w b o v C t fz h) (by simp; omega)
    refine ⟨C', h1, by simpa using h2, fun j => ?_⟩
    rw [h3]
    simp only [List.length_cons]
    by_cases hj : j = o
    · subst hj
      rw [if_neg (by omega), if_pos (by omega)]
      simp [Array.getD_eq_getD_getElem?, Array.getElem?_setIfInBounds]
      have : j < C.size := by omega
      simp [this]
    · by_cases hr : o + 1 ≤ j ∧ j < o + 1 + r.length
      · rw [if_pos hr, if_pos (by omega)]
        obtain ⟨m, hm⟩ : ∃ m, j - o = m + 1 := ⟨j - o - 1, by omega⟩
        have : j - (o + 1) = m := by omega
        rw [hm, this]; rfl
      · rw [if_neg hr, if_neg (by omega)]
        simp [Array.getD_eq_getD_getElem?, Ne.symm hj]

theorem frozen_false {w : World} {b : Nat} {C : Array Value} {t : TypeId} {fz : Nat × Nat} (h : w.heap[b]? = some (.cells C t fz)) (hf : ∀ j, j < C.size → ¬(fz.1 ≤ j ∧ j < fz.2)) {j : Nat} (hj : j < C.size) :
    w.frozen? ⟨b, j, none⟩ = false := by
  unfold World.frozen?
  obtain ⟨lo, hi⟩ := fz
  have := hf j hj
  simp only [h]
  simp only [Bool.and_eq_false_iff, decide_eq_false_iff_not]
  by_cases h1 : lo ≤ j
  · exact .inr (by simpa using fun h2 => this ⟨h1, h2⟩)
  · exact .inl h1

/-- cells of a live object are written -/
theorem write_obj (hH : Hp θ H w) {x : Nat} {cs : List AV} {l : Loc} (ho : H[x]? = some (.cells cs)) (hl : θ x = some l) {off : Nat} {new : List AV} {vs : List Value}
    (hv : RelVs θ (Free θ H) w new vs) (hle : off + new.length ≤ cs.length) :
    (∀ (Q : Program), (storeCells ⟨l.blk, l.off + off, none⟩ vs 0).run Q w = .ok () (w.setCells l.blk (l.off + off) vs)) ∧
    Hp θ (H.set x (.cells (sSplice cs off new))) (w.setCells l.blk (l.off + off) vs) ∧ Evo θ H w θ (H.set x (.cells (sSplice cs off new))) (w.setCells l.blk (l.off + off) vs) := by
  obtain ⟨C, t, fz, h1, h2, h3, h4, h5⟩ := hH.obj x _ l ho hl
  have hvl := hv.1
  obtain ⟨C', c1, c2, c3⟩ := setCells_heap l.blk t fz vs (l.off + off) w C h1 (by omega)
  obtain ⟨m1, m2, m3, m4⟩ := setCells_meta l.blk vs (l.off + off) w
  have hs := set_obj (o' := .cells (sSplice cs off new)) hH ho rfl hl (w.setCells l.blk (l.off + off) vs) m1 (fun c hc => setCells_other _ _ hc _ _ _) m2 m3 m4
  refine ⟨fun Q => ?_, hs.1 ?_, hs.2⟩
  · have := run_storeCells_cells (P := Q) l.blk (l.off + off) vs 0 w (fun j hj => ?_) (fun j hj => ?_) hv.2.1
    · simpa using this
    · simp only [Nat.add_zero]
      unfold World.cell?
      simp only [h1]
      simp; omega
    · simp only [Nat.add_zero]
      exact frozen_false h1 h3 (by omega)
  · refine ⟨C', t, fz, c1, c2.trans h2, fun j hj => h3 j (by omega), ?_, fun j v hj => ?_⟩
    · simp only [sSplice, List.length_append, List.length_take, List.length_drop]; omega
    · rw [c3]
      unfold sSplice at hj
      have hmono : ∀ {y : AV} {u : Value}, RelV θ (Free θ H) w y u → RelV θ (Free θ (H.set x (.cells (sSplice cs off new)))) (w.setCells l.blk (l.off + off) vs) y u := fun r => hs.2.relV r
      by_cases hj1 : j < off
      · rw [List.getElem?_append_left (by simp; omega), List.getElem?_take, if_pos hj1] at hj
        rw [if_neg (by omega)]
        exact ⟨hmono (h5 j v hj).1, (h5 j v hj).2⟩
      · rw [List.getElem?_append_right (by simp; omega)] at hj
        have e1 : j - (cs.take off).length = j - off := by simp; omega
        rw [e1] at hj
        by_cases hj2 : j - off < new.length
        · rw [List.getElem?_append_left hj2] at hj
          rw [if_pos (by omega)]
          have e2 : l.off + j - (l.off + off) = j - off := by omega
          rw [e2]
          refine ⟨hmono (hv.2.2 (j - off) v hj), hv.2.1 _ ?_⟩
          rw [List.getD_eq_getElem?_getD, List.getElem?_eq_getElem (by omega)]
          simp
        · rw [List.getElem?_append_right (by omega), List.getElem?_drop] at hj
          have e2 : off + new.length + (j - off - new.length) = j := by omega
          rw [e2] at hj
          rw [if_neg (by omega)]
          exact ⟨hmono (h5 j v hj).1, (h5 j v hj).2⟩

theorem sim_store (hT : TmOk θ (Free θ H) w tm a) (hH : Hp θ H w) {t : TypeId} {x y : Operand} {n : Nat} {x' y' : Opd} (hn : szIs P t n = true)
    (hx : chkOpd x x' = true) (hy : chkOpd y y' = true) {v : AV} {e : Eff} (hs : step Gl tm H na (.store n x' y') = some (v, e)) {o : Oper} (ho : o.op = .store t x y) : Out2 θ H w na v e ((execOp a.eval o).run P w) := by
  simp only [step] at hs
  have hrx := opd_rel hT hx
  have hry := opd_rel hT hy
  generalize hvx : evOpd tm x' = vx at hs hrx
  cases vx <;> simp only [] at hs <;> try (cases hs; done)
  rename_i b off
  cases hob : H[b]? with
  | none => simp [hob] at hs
  | some ob =>
    cases ob <;> simp [hob] at hs
    rename_i cs
    cases hc : (evOpd tm y').cells? with
    | none => simp [hc] at hs
    | some new =>
      simp [hc] at hs
      obtain ⟨⟨h1, h2⟩, rfl, rfl⟩ := hs
      generalize hax : a.eval x = ax at hrx
      cases hrx with
      | ptr _ _ l hl =>
        have hcells := cells_rel hry hc
        obtain ⟨w1, w2, w3⟩ := write_obj hH hob hl hcells (off := off) (by omega)
        have hsz : (a.eval y).cells.size = n := by have := hcells.1; simp at this; omega
        refine ⟨undef, _, θ, .inr ⟨?_, rfl⟩, ?_, w2, w3, fun _ _ => rfl, fun _ => rfl⟩
        · have := run_sizeOf hn w
          simp [execOp, ho, Instr.storeAt, hax, Instr.sureAddr, storeVar, this, hsz, w1 P, Result.andThen]
        · exact .p _ _ (.tuple [] #[] rfl (fun i x h => by simp at h))

theorem zeroIs_spec {t : TypeId} {z : List PV} (h : zeroIs P t z = true) : ∃ i v, P.info? t = some i ∧ i.zero = some v ∧ constsOk z v.cells.toList = true := by
  unfold zeroIs at h
  cases hi : P.info? t with
  | none => simp [hi] at h
  | some i =>
    simp [hi] at h
    cases hz : i.zero with
    | none => simp [hz] at h
    | some v => simp [hz] at h; exact ⟨i, v, rfl, hz, h⟩
theorem zero_rel {z : List PV} {vs : List Value} (h : constsOk z vs = true) : RelVs θ S w (z.map .p) vs := by
  obtain ⟨h1, h2, h3⟩ := constsOk_rel (S := S) (w := w) z vs h
  exact .ofP h1 h2 h3
theorem run_zero {t : TypeId} {i : TypeInfo} {v : Value} (hi : P.info? t = some i) (hz : i.zero = some v) (w : World) : (zeroValue t).run P w = .ok v w := by
  simp [zeroValue, typeInfo, hi, hz]

/-- a fresh row: what it is to the abstract heap -/
theorem fresh_row {n : Nat} {t : TypeId} {cs : List AV} {vs : List Value} (extra : List Value) (hv : RelVs θ (Free θ H) w cs vs) (θ' : Th) (S' : Nat → Prop)
    (h1 : ∀ a l, θ a = some l → θ' a = some l) (h2 : ∀ c, c < w.heap.size → Free θ H c → S' c ∧ ({ w with heap := w.heap.push (.cells (vs ++ extra).toArray t), drawn := n } : World).heap[c]? = w.heap[c]?) :
    RelObj θ' S' { w with heap := w.heap.push (.cells (vs ++ extra).toArray t), drawn := n } (.cells cs) ⟨w.heap.size, 0, vs.length + extra.length⟩ := by
  refine ⟨(vs ++ extra).toArray, t, (0, 0), by simp, by simp, fun j _ => by simp, by simp [hv.1], fun j v hj => ?_⟩
  have hlt := (List.getElem?_eq_some_iff.1 hj).1
  have hv' := hv.mono h1 h2
  have e : (vs ++ extra).toArray.getD (0 + j) vundef = vs.getD j vundef := by
    rw [Array.getD_eq_getD_getElem?, List.getD_eq_getElem?_getD]
    simp only [Nat.zero_add, List.getElem?_toArray]
    rw [List.getElem?_append_left (by rw [hv.1]; exact hlt)]
  rw [e]
  refine ⟨hv'.2.2 j v hj, hv.2.1 _ ?_⟩
  rw [List.getD_eq_getElem?_getD, List.getElem?_eq_getElem (by rw [hv.1]; exact hlt)]
  simp

theorem out2_row {r : Result Next} {v : AV} {cv : Value} {n : Nat} (hH : Hp θ H w) (hna : AlOk θ H na) {t : TypeId} {cs : List AV} {vs : List Value} (extra : List Value) (hv : RelVs θ (Free θ H) w cs vs)
    (hr : r = .ok (.value cv) { w with heap := w.heap.push (.cells (vs ++ extra).toArray t), drawn := n })
    (hcv : ∀ θ' S w', θ' na = some ⟨w.heap.size, 0, vs.length + extra.length⟩ → RelV θ' S w' v cv) : Out2 θ H w na v { new := some (.cells cs) } r :=
  out2_new hH hna _ _ _ rfl hr hcv (fun θ' S' h1 h2 => fresh_row extra hv θ' S' h1 h2)

theorem sim_alloc (hH : Hp θ H w) (hna : AlOk θ H na) {t : TypeId} {z : List PV} (hz : zeroIs P t z = true)
    {v : AV} {e : Eff} (hs : step Gl tm H na (.alloc z) = some (v, e)) {o : Oper} (ho : o.op = .alloc t) : Out2 θ H w na v e ((execOp a.eval o).run P w) := by
  simp only [step, Option.some.injEq, Prod.mk.injEq] at hs
  obtain ⟨rfl, rfl⟩ := hs
  obtain ⟨i, zv, hi, hz1, hz2⟩ := zeroIs_spec hz
  refine out2_row (n := w.drawn) (t := t) (cv := .pointer (some ⟨w.heap.size, 0, none⟩)) hH hna [] (zero_rel hz2) ?_ (fun θ' S w' h => .ptr na 0 _ h)
  have := run_zero hi hz1 w
  simp [execOp, ho, Instr.alloc, this, newVar, newRow, Result.andThen]

theorem sim_box (hT : TmOk θ (Free θ H) w tm a) (hH : Hp θ H w) (hna : AlOk θ H na) {t : TypeId} {x : Operand} {y : Opd} (hx : chkOpd x y = true)
    {v : AV} {e : Eff} (hs : step Gl tm H na (.box y) = some (v, e)) {o : Oper} (ho : o.op = .box t x) : Out2 θ H w na v e ((execOp a.eval o).run P w) := by
  simp only [step] at hs
  cases hc : (evOpd tm y).cells? with
  | none => simp [hc] at hs
  | some cs =>
    simp [hc] at hs
    obtain ⟨rfl, rfl⟩ := hs
    refine out2_row (n := w.drawn) (t := t) (cv := .pointer (some ⟨w.heap.size, 0, none⟩)) hH hna [] (cells_rel (opd_rel hT hx) hc) ?_ (fun θ' S w' h => .ptr na 0 _ h)
    simp [execOp, ho, Instr.box, newVar, newRow, Result.andThen]
end
end
end Go.Av
