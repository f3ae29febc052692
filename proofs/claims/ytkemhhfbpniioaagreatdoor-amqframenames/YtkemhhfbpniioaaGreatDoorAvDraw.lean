/- An abstract machine for the modelled code, and what its runs say of real calls. Part of a proof of a given statement: for every input the law returns true and the arguments read as before; no condition beyond the given row. -/
import Derived.Test.YtkemhhfbpniioaaGreatDoorAvCtr
import Derived.Orders
namespace Go.Av
noncomputable section

section
variable {P : Program} {Gl : Nat → Option (List PV)}

theorem evOpd_congr {tm tm' : List AV} {x : Opd} (h : ∀ t ∈ opdSlots x, tm'.getD t .any = tm.getD t .any) : evOpd tm' x = evOpd tm x := by
  cases x <;> first | rfl | exact h _ (by simp [opdSlots])
theorem evOpds_congr {tm tm' : List AV} {xs : List Opd} (h : ∀ t ∈ xs.flatMap opdSlots, tm'.getD t .any = tm.getD t .any) : xs.map (evOpd tm') = xs.map (evOpd tm) :=
  List.map_congr_left fun x hx => evOpd_congr fun t ht => h t (List.mem_flatMap.2 ⟨x, hx, ht⟩)
theorem evOpdO_congr {tm tm' : List AV} {x : Option Opd} (h : ∀ t ∈ x.toList.flatMap opdSlots, tm'.getD t .any = tm.getD t .any) : x.map (evOpd tm') = x.map (evOpd tm) := by
  cases x with
  | none => rfl
  | some x => simp only [Option.map_some]; rw [evOpd_congr (fun t ht => h t (by simpa using ht))]
theorem sFill_congr {tm tm' : List AV} : ∀ (ps : List (Nat × Nat × Opd)) (cells : List AV), (∀ t ∈ ps.flatMap (fun p => opdSlots p.2.2), tm'.getD t .any = tm.getD t .any) → sFill tm' cells ps = sFill tm cells ps
  | [], _, _ => rfl
  | (o, n, x) :: ps, cells, h => by
    simp only [sFill]
    rw [evOpd_congr (x := x) (fun t ht => h t (by simp [ht]))]
    cases (evOpd tm x).cells? with
    | none => rfl
    | some v =>
      dsimp only
      split
      · exact sFill_congr ps _ (fun t ht => h t (by simp only [List.flatMap_cons, List.mem_append]; exact .inr ht))
      · rfl

theorem fpOf_eq (tm : List AV) (x : Opd) : opdK tm adK x = adK (evOpd tm x) := opdK_eq _ _ _

/-- an operation depends on its operands, and on what it looks at -/
theorem step_local {tm tm' : List AV} {H H' : List AObj} {na : Nat} {c : COp} {v : AV} {e : Eff} (hs : step Gl tm H na c = some (v, e)) (ht : ∀ t ∈ c.slots, tm'.getD t .any = tm.getD t .any)
    (hr : ∀ a ∈ (fpOf tm H c).1, ∀ o, H[a]? = some o → H'[a]? = some o) : step Gl tm' H' na c = some (v, e) := by
  have o1 : ∀ {x : Opd}, (∀ t ∈ opdSlots x, t ∈ c.slots) → evOpd tm' x = evOpd tm x := fun h => evOpd_congr fun t ht' => ht t (h t ht')
  cases c with
  | call f args => cases hs
  | callv f args => cases hs
  | alloc z => exact hs
  | makeMap => exact hs
  | load n b x =>
    simp only [step] at hs ⊢
    rw [o1 (fun t h => h)]
    simp only [fpOf, fpN, fpOf_eq] at hr
    have : ∀ cs, sCells Gl H (evOpd tm x) = some cs → sCells Gl H' (evOpd tm x) = some cs := by
      intro cs hc
      cases hv : evOpd tm x <;> simp only [hv, sCells] at hc hr ⊢ <;> try exact hc
      rename_i a off
      cases ha : H[a]? with
      | none => simp [ha] at hc
      | some o => rw [hr a (by simp [adK]) o ha]; rw [ha] at hc; exact hc
    cases hc : sCells Gl H (evOpd tm x) with
    | none => simp [hc] at hs
    | some cs => rw [this cs hc]; rw [hc] at hs; exact hs
  | store n x y =>
    simp only [step] at hs ⊢
    rw [o1 (x := x) (fun t h => by simp [COp.slots, h]), o1 (x := y) (fun t h => by simp [COp.slots, h])]
    simp only [fpOf, fpN, fpOf_eq] at hr
    cases hv : evOpd tm x <;> simp only [hv] at hs hr ⊢ <;> try (cases hs; done)
    rename_i a off
    cases ha : H[a]? with
    | none => simp [ha] at hs
    | some o => rw [hr a (by simp [adK]) o ha]; rw [ha] at hs; exact hs
  | strOf x =>
    simp only [step] at hs ⊢
    rw [o1 (fun t h => h)]
    simp only [fpOf, fpN, fpOf_eq] at hr
    cases hv : evOpd tm x <;> simp only [hv] at hs hr ⊢ <;> try (first | exact hs | (cases hs; done) | (rename_i q; cases q <;> simp only [] at hs ⊢ <;> first | exact hs | (cases hs; done)))
    rename_i es a off len
    cases ha : H[a]? with
    | none => simp [ha] at hs
    | some o => rw [hr a (by simp [adK]) o ha]; rw [ha] at hs; exact hs
  | insert kk m k x =>
    simp only [step] at hs ⊢
    rw [o1 (x := m) (fun t h => by simp [COp.slots, h]), o1 (x := k) (fun t h => by simp [COp.slots, h]), o1 (x := x) (fun t h => by simp [COp.slots, h])]
    simp only [fpOf, fpN, fpOf_eq] at hr
    cases hv : evOpd tm m <;> cases hk : evOpd tm k <;> simp only [hv, hk] at hs hr ⊢ <;> try (cases hs; done)
    rename_i a _
    cases ha : H[a]? with
    | none => simp [ha] at hs
    | some o => rw [hr a (by simp [adK]) o ha]; rw [ha] at hs; exact hs
  | lookup kk z g ok m k =>
    simp only [step] at hs ⊢
    rw [o1 (x := m) (fun t h => by simp [COp.slots, h]), o1 (x := k) (fun t h => by simp [COp.slots, h])]
    simp only [fpOf, fpN, fpOf_eq] at hr
    cases hv : evOpd tm m <;> cases hk : evOpd tm k <;> simp only [hv, hk] at hs hr ⊢ <;> try (cases hs; done)
    rename_i a _
    cases ha : H[a]? with
    | none => simp [ha] at hs
    | some o => rw [hr a (by simp [adK]) o ha]; rw [ha] at hs; exact hs
  | lenMap x =>
    simp only [step] at hs ⊢
    rw [o1 (fun t h => h)]
    simp only [fpOf, fpN, fpOf_eq] at hr
    cases hv : evOpd tm x <;> simp only [hv] at hs hr ⊢ <;> try (first | exact hs | (cases hs; done) | (rename_i q; cases q <;> simp only [] at hs ⊢ <;> first | exact hs | (cases hs; done)))
    rename_i a
    cases ha : H[a]? with
    | none => simp [ha] at hs
    | some o => rw [hr a (by simp [adK]) o ha]; rw [ha] at hs; exact hs
  | copyB d s =>
    simp only [step] at hs ⊢
    rw [o1 (x := d) (fun t h => by simp [COp.slots, h]), o1 (x := s) (fun t h => by simp [COp.slots, h])]
    simp only [fpOf, fpN, fpOf_eq] at hr
    cases hsr : sSrc H (evOpd tm s) with
    | none => simp [hsr] at hs
    | some new =>
      simp only [hsr, Option.bind_some] at hs
      have h1 : sSrc H' (evOpd tm s) = some new := by
        unfold sSrc at hsr ⊢
        generalize evOpd tm s = vs at hsr hr ⊢
        split at hsr
        · rename_i es b off n
          cases hb : H[b]? with
          | none => simp [hb] at hsr
          | some o => rw [hr b (by simp [adK]) o hb]; rw [hb] at hsr; exact hsr
        all_goals first | exact hsr | (cases hsr; done)
      have h2 : sCopy H' (evOpd tm d) new = some (v, e) := by
        unfold sCopy at hs ⊢
        generalize evOpd tm d = vd at hs hr ⊢
        split at hs
        · exact hs
        · rename_i es a off len
          cases ha : H[a]? with
          | none => simp [ha] at hs
          | some o => rw [hr a (by simp [adK]) o ha]; rw [ha] at hs; exact hs
        · cases hs
      rw [h1, Option.bind_some]; exact h2
  | append esz bytes s x =>
    simp only [step] at hs ⊢
    rw [o1 (x := s) (fun t h => by simp [COp.slots, h]), o1 (x := x) (fun t h => by simp [COp.slots, h])]
    simp only [fpOf, fpN, fpOf_eq] at hr
    have hadd : ∀ new n, sAdd H na esz bytes (evOpd tm s) new n = some (v, e) → sAdd H' na esz bytes (evOpd tm s) new n = some (v, e) := by
      intro new n h
      unfold sAdd at h ⊢
      split
      · rename_i hn; rw [if_pos hn] at h; exact h
      · rename_i hn
        rw [if_neg hn] at h
        cases hv : evOpd tm s <;> simp only [hv] at h hr ⊢ <;> try (first | exact h | (cases h; done) | (rename_i q; cases q <;> simp only [] at h ⊢ <;> first | exact h | (cases h; done)))
        rename_i es a off len
        cases ha : H[a]? with
        | none => simp [ha] at h
        | some o => rw [hr a (by simp [adK]) o ha]; rw [ha] at h; exact h
    unfold sApp at hs ⊢
    generalize evOpd tm x = vx at hs hr ⊢
    split at hs
    · rename_i es b off n
      cases hb : H[b]? with
      | none => simp [hb] at hs
      | some o =>
        rw [hr b (by simp [adK]) o hb]
        rw [hb] at hs
        cases o <;> simp only [] at hs ⊢ <;> try (cases hs; done)
        split at hs
        · rename_i he
          rw [if_pos he]
          rename_i cs
          cases hk : sTake (n * esz) (cs.drop off) with
          | none => simp [hk] at hs
          | some new => simp only [hk, Option.bind_some] at hs ⊢; exact hadd _ _ hs
        · cases hs
    · split at hs
      · rename_i he; rw [if_pos he]; exact hadd _ _ hs
      · cases hs
    · exact hadd _ _ hs
    · split at hs
      · rename_i he; rw [if_pos he]; exact hadd _ _ hs
      · cases hs
    · cases hs
  | build z ps => simp only [step] at hs ⊢; rw [sFill_congr ps _ (fun t h => ht t h)]; exact hs
  | buildSlice z len esz ps => simp only [step] at hs ⊢; rw [sFill_congr ps _ (fun t h => ht t h)]; exact hs
  | makeFunc fn p q =>
    simp only [step] at hs ⊢
    rw [evOpds_congr (xs := p) (fun t h => ht t (by simp only [COp.slots, List.mem_append]; exact .inl h)), evOpds_congr (xs := q) (fun t h => ht t (by simp only [COp.slots, List.mem_append]; exact .inr h))]
    exact hs
  | sliceStr x lo hi =>
    simp only [step] at hs ⊢
    rw [o1 (x := x) (fun t h => by simp [COp.slots, h]), evOpdO_congr (x := lo) (fun t h => ht t (by simp only [COp.slots, List.mem_append]; exact .inl (.inr h))), evOpdO_congr (x := hi) (fun t h => ht t (by simp only [COp.slots, List.mem_append]; exact .inr h))]
    exact hs
  | sliceArr n esz x lo hi =>
    simp only [step] at hs ⊢
    rw [o1 (x := x) (fun t h => by simp [COp.slots, h]), evOpdO_congr (x := lo) (fun t h => ht t (by simp only [COp.slots, List.mem_append]; exact .inl (.inr h))), evOpdO_congr (x := hi) (fun t h => ht t (by simp only [COp.slots, List.mem_append]; exact .inr h))]
    simp only [fpOf, fpN, fpOf_eq] at hr
    cases hv : evOpd tm x <;> simp only [hv] at hs hr ⊢ <;> try (cases hs; done)
    rename_i a off
    cases ha : H[a]? with
    | none => simp [ha] at hs
    | some o => rw [hr a (by simp [adK]) o ha]; rw [ha] at hs; exact hs
  | slice esz x lo hi =>
    simp only [step] at hs ⊢
    rw [o1 (x := x) (fun t h => by simp [COp.slots, h]), evOpdO_congr (x := lo) (fun t h => ht t (by simp only [COp.slots, List.mem_append]; exact .inl (.inr h))), evOpdO_congr (x := hi) (fun t h => ht t (by simp only [COp.slots, List.mem_append]; exact .inr h))]
    exact hs
  | pick x y z =>
    simp only [step] at hs ⊢
    rw [o1 (x := x) (fun t h => by simp [COp.slots, h]), o1 (x := y) (fun t h => by simp [COp.slots, h]), o1 (x := z) (fun t h => by simp [COp.slots, h])]
    exact hs
  | move x | box x | nilCheck x | not x | neg x | conv _ x | bytesOf x | fieldAddr x _ | field x _ _ _ | extract x _ | lenStr x | lenSl x =>
    simp only [step] at hs ⊢
    rw [o1 (fun t h => h)]
    exact hs
  | ari _ x y | cmp _ x y | eqB _ x y | eqP _ x y | eqAgg _ _ x y | makeSlice _ _ x y | indexAddr _ x y | indexArr _ _ x y | indexStr x y | max x y | min x y =>
    simp only [step] at hs ⊢
    rw [o1 (x := x) (fun t h => by simp [COp.slots, h]), o1 (x := y) (fun t h => by simp [COp.slots, h])]
    exact hs
end
end
end Go.Av
