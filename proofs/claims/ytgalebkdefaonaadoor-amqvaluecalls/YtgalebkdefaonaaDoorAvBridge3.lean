/- An abstract machine for the modelled code, and what its runs say of real calls. Part of a proof of a given statement: for every input the law returns true and the arguments read as before; no condition beyond the given row. -/
import Derived.Test.YtgalebkdefaonaaDoorAvBridge2
namespace Go.Av
noncomputable section
open Go.RowKit Go.WideShapes Go.ChangeShapes
section
variable {P : Program} {w : World} {T : List TypeId} {enc : TypeId × Value → Unit} {sp : Nat → Bool} {held : Bool}

theorem flat_fields {n : Nat} {cs : List Value} {m : Nat} (ih : ∀ (t : TypeId) (cs : List Value) (d : DataW Unit) (p : List MemPlace) (ps : List PV), t ∈ T → DataW.trod enc P w 0 sp held n t cs = some (d, p) → flatD d = some ps → RelCs w ps cs) (hm : cs.length = m) :
  ∀ (fs : List Field) (k : Nat) (xs : List (DataW Unit × List MemPlace)) (ps : List PV), tiles P fs k m = true → (∀ f ∈ fs, f.type ∈ T) →
  (fs.mapM fun f => DataW.trod enc P w 0 sp held n f.type ((cs.drop f.offset).take (P.cellsOf f.type))) = some xs → flatDs (xs.map (·.1)) = some ps → RelCs w ps (cs.drop k)
 | [], k, xs, ps, ht, _, hx, hp => by
  simp only [tiles, beq_iff_eq] at ht
  subst ht
  simp only [List.mapM_nil, Option.pure_def, Option.some.injEq] at hx
  subst hx
  simp only [List.map_nil, flatDs, Option.some.injEq] at hp
  subst hp
  rw [List.drop_of_length_le (by omega)]
  exact ⟨rfl, fun c hc => (by cases hc), fun i x hx => by simp at hx⟩
 | f :: fs, k, xs, ps, ht, hT, hx, hp => by
  simp only [tiles, Bool.and_eq_true, beq_iff_eq] at ht
  obtain ⟨ht1, ht2⟩ := ht
  simp only [List.mapM_cons, Option.bind_eq_bind, Option.bind_eq_some_iff, Option.pure_def, Option.some.injEq] at hx
  obtain ⟨y, hy, ys, hys, rfl⟩ := hx
  simp only [List.map_cons, flatDs] at hp
  split at hp
  ·rename_i p1 p2 e1 e2
   cases hp
   have h1 := ih f.type _ y.1 y.2 p1 (hT f (by simp)) hy e1
   have h2 := flat_fields ih hm fs (k + P.cellsOf f.type) ys p2 ht2 (fun g hg => hT g (by simp [hg])) hys e2
   rw [ht1] at h1
   have e : cs.drop k = (cs.drop k).take (P.cellsOf f.type) ++ cs.drop (k + P.cellsOf f.type) := by
    rw [← List.drop_drop, List.take_append_drop]
   rw [e]; exact h1.append h2
  ·cases hp
theorem flat_items {n : Nat} {cs : List Value} {e : TypeId} (ih : ∀ (t : TypeId) (cs : List Value) (d : DataW Unit) (p : List MemPlace) (ps : List PV), t ∈ T → DataW.trod enc P w 0 sp held n t cs = some (d, p) → flatD d = some ps → RelCs w ps cs) (he : e ∈ T) :
  ∀ (m k : Nat) (xs : List (DataW Unit × List MemPlace)) (ps : List PV), (k + m) * P.cellsOf e = cs.length →
  ((List.range' k m).mapM fun i => DataW.trod enc P w 0 sp held n e ((cs.drop (i * P.cellsOf e)).take (P.cellsOf e))) = some xs → flatDs (xs.map (·.1)) = some ps → RelCs w ps (cs.drop (k * P.cellsOf e))
 | 0, k, xs, ps, hk, hx, hp => by
  simp only [List.range'_zero, List.mapM_nil, Option.pure_def, Option.some.injEq] at hx
  subst hx
  simp only [List.map_nil, flatDs, Option.some.injEq] at hp
  subst hp
  simp at hk
  rw [List.drop_of_length_le (by omega)]
  exact ⟨rfl, fun c hc => (by cases hc), fun i x hx => by simp at hx⟩
 | m + 1, k, xs, ps, hk, hx, hp => by
  simp only [List.range'_succ, List.mapM_cons, Option.bind_eq_bind, Option.bind_eq_some_iff, Option.pure_def, Option.some.injEq] at hx
  obtain ⟨y, hy, ys, hys, rfl⟩ := hx
  simp only [List.map_cons, flatDs] at hp
  split at hp
  ·rename_i p1 p2 e1 e2
   cases hp
   have h1 := ih e _ y.1 y.2 p1 he hy e1
   have h2 := flat_items ih he m (k + 1) ys p2 (by rw [← hk]; congr 1; omega) hys e2
   have e : cs.drop (k * P.cellsOf e) = (cs.drop (k * P.cellsOf e)).take (P.cellsOf e) ++ cs.drop ((k + 1) * P.cellsOf e) := by
    rw [Nat.succ_mul, ← List.drop_drop, List.take_append_drop]
   rw [e]; exact h1.append h2
  ·cases hp

theorem flat_got (hT : plainB P T = true) : ∀ (n : Nat) (t : TypeId) (cs : List Value) (d : DataW Unit) (p : List MemPlace) (ps : List PV), t ∈ T → DataW.trod enc P w 0 sp held n t cs = some (d, p) → flatD d = some ps → RelCs w ps cs
 | 0, t, cs, d, p, ps, _, h, _ => by simp [DataW.trod] at h
 | n + 1, t, cs, d, p, ps, ht, h, hf => by
  have ih := flat_got hT n
  have hp := List.all_eq_true.1 hT t ht
  split at hp
  ·rename_i hu
   obtain ⟨b, rfl, hx⟩ := DataW.trod_bool hu h
   simp only [Prod.mk.injEq] at hx
   rw [hx.1] at hf
   simp only [flatD, Option.some.injEq] at hf
   subst hf
   exact .one (.bool b) rfl
  ·rename_i k hu
   obtain ⟨z, rfl, hx, _⟩ := DataW.trod_int hu h
   simp only [Prod.mk.injEq] at hx
   rw [hx.1] at hf
   simp only [flatD, Option.some.injEq] at hf
   subst hf
   exact .one (.int k z) rfl
  ·rename_i hu
   simp only [DataW.trod, hu] at h
   split at h <;> rename_i h0 <;> first | (cases h0; done) | skip
   all_goals try (simp at h0; done)
   all_goals try (cases h; done)
   ·split at h
    ·simp only [Option.some.injEq, Prod.mk.injEq] at h
     rw [← h.1] at hf
     simp only [flatD, Option.some.injEq] at hf
     subst hf
     exact .one (.str _) rfl
    ·cases h
  ·rename_i e hu
   simp only [DataW.trod, hu] at h
   split at h <;> rename_i h0 <;> first | (cases h0; done) | skip
   all_goals try (simp at h0; done)
   all_goals try (cases h; done)
   ·simp only [Option.some.injEq, Prod.mk.injEq] at h
    rw [← h.1] at hf
    simp [flatD] at hf
   ·split at h
    ·obtain ⟨elems, _, h2⟩ := Option.bind_eq_some_iff.1 h
     rw [Option.map_eq_some_iff] at h2
     obtain ⟨rest, _, h3⟩ := h2
     simp only [Prod.mk.injEq] at h3
     rw [← h3.1] at hf
     simp [flatD] at hf
    ·cases h
  ·rename_i fs hu
   simp only [Bool.and_eq_true] at hp
   obtain ⟨ht1, ht2⟩ := hp
   simp only [DataW.trod, hu] at h
   split at h
   ·rename_i hl
    rw [Option.map_eq_some_iff] at h
    obtain ⟨xs, hx, h3⟩ := h
    simp only [Prod.mk.injEq] at h3
    rw [← h3.1] at hf
    simp only [flatD] at hf
    have := flat_fields ih hl fs.toList 0 xs ps ht1 (fun f hf => by have := List.all_eq_true.1 ht2 f hf; simpa using this) hx hf
    simpa using this
   ·cases h
  ·rename_i m e hu
   simp only [Bool.and_eq_true, beq_iff_eq, List.contains_iff_mem] at hp
   obtain ⟨he, hsz⟩ := hp
   simp only [DataW.trod, hu] at h
   split at h
   ·rename_i hl
    rw [Option.map_eq_some_iff] at h
    obtain ⟨xs, hx, h3⟩ := h
    simp only [Prod.mk.injEq] at h3
    rw [← h3.1] at hf
    simp only [flatD] at hf
    have := flat_items ih he m 0 xs ps (by rw [Nat.zero_add, hsz, hl]) (by rw [← List.range_eq_range']; exact hx) hf
    simpa using this
   ·cases h
  ·cases hp

theorem laid_glob (hT : plainB P T = true) : ∀ (laid : List (String × DataW Unit)) (ps : List MemPlace), DataW.LaidVars P w laid ps → ∀ nm d g t cs, (nm, d) ∈ laid → P.globalNamed nm = some g → (P.globals[g]?).map (·.type) = some t → t ∈ T → flatD d = some cs →
  g < w.heap.size ∧ ∃ vs : List Value, vs.length = cs.length ∧ (∀ c ∈ vs, c.oneCell' = true) ∧ ∀ (j : Nat) x, cs[j]? = some x → w.cell? ⟨g, j, none⟩ = some (vs.getD j vundef) ∧ RelP (fun _ => True) w x (vs.getD j vundef)
 | [], _, _, _, _, _, _, _, h, _, _, _, _ => by cases h
 | (n1, d1) :: laid, ps, h, nm, d, g, t, cs, hmem, hg, ht, hTt, hf => by
  obtain ⟨g', t', vs, fuel, p, q, hg', ht', hvar, hd, hrest, _⟩ := h
  rcases List.mem_cons.1 hmem with h | h
  ·simp only [Prod.mk.injEq] at h
   obtain ⟨e1, e2⟩ := h
   rw [← e1] at hg' hvar
   rw [← e2] at hd
   obtain rfl := Option.some.inj (hg.symm.trans hg')
   obtain rfl := Option.some.inj (ht.symm.trans ht')
   have hr := flat_got hT fuel t vs.toList d p cs hTt hd hf
   refine ⟨?_, vs.toList, hr.1, hr.2.1, fun j x hj => ⟨?_, hr.2.2 j x hj⟩⟩
   ·simp only [World.var?, hg, Option.bind_some] at hvar
    split at hvar
    ·rename_i h1; exact heap_lt h1
    ·cases hvar
   ·rw [World.var?_cell hg hvar]
    have hlt : j < vs.toList.length := by rw [hr.1]; exact (List.getElem?_eq_some_iff.1 hj).1
    rw [List.getD_eq_getElem?_getD, List.getElem?_eq_getElem hlt]
    simp at hlt ⊢
  ·exact laid_glob hT laid q hrest nm d g t cs h hg ht hTt hf

theorem glob_of_laid (hT : plainB P T = true) {Gl : Nat → Option (List PV)} {laid : List (String × DataW Unit)}
  (hGl : ∀ g cs, Gl g = some cs → ∃ nm d t, (nm, d) ∈ laid ∧ P.globalNamed nm = some g ∧ (P.globals[g]?).map (·.type) = some t ∧ t ∈ T ∧ flatD d = some cs) {W : World} (h : laidMet P laid W) :
  GlobOK Gl ⟨fun _ => none, fun _ => False⟩ [] W := by
 intro g cs hg
 obtain ⟨nm, d, t, h1, h2, h3, h4, h5⟩ := hGl g cs hg
 obtain ⟨ps, hps, _⟩ := h
 obtain ⟨q1, vs, q2, q3, q4⟩ := laid_glob hT laid ps hps nm d g t cs h1 h2 h3 h4 h5
 exact ⟨q1, ⟨fun h => h, fun a o l h => by simp at h⟩, vs, q2, q3, fun j x hj => ⟨(q4 j x hj).1, (q4 j x hj).2.mono (fun c _ _ => ⟨⟨fun h => h, fun a o l h => by simp at h⟩, rfl⟩)⟩⟩
end
end
end Go.Av
