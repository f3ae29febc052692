/- An abstract machine for the modelled code, and what its runs say of real calls. Part of a proof of a given statement: for every input the law returns true and the arguments read as before; no condition beyond the given row. -/
import Derived.Test.YtkemhhfbpniioaaGreatDoorAvDraw
namespace Go.Av
noncomputable section

/-- a change of the heap: objects get new contents, one may be new -/
structure Chg where
  sets : List (Nat × AObj)
  new : Option AObj
def setsL (sets : List (Nat × AObj)) (H : List AObj) : List AObj := sets.foldl (fun H s => H.set s.1 s.2) H
def Chg.app (c : Chg) (H : List AObj) (na : Nat) : List AObj := match c.new with
  | some o => plc (setsL c.sets H) na o
  | none => setsL c.sets H
def Chg.aff (c : Chg) (na : Nat) (x : Nat) : Prop := x ∈ c.sets.map (·.1) ∨ (c.new.isSome = true ∧ x = na)
def Eff.chg (e : Eff) : Chg := ⟨e.set.toList, e.new⟩
theorem Eff.chg_app (e : Eff) (H : List AObj) (na : Nat) : e.chg.app H na = e.apply H na := by
  obtain ⟨s, n⟩ := e
  cases s <;> cases n <;> rfl

theorem setsL_len (s : List (Nat × AObj)) : ∀ H, (setsL s H).length = H.length := by
  induction s with
  | nil => intro H; rfl
  | cons p s ih => intro H; simp only [setsL, List.foldl_cons] at ih ⊢; rw [ih]; simp
theorem setsL_ne {x : Nat} : ∀ (s : List (Nat × AObj)) (H : List AObj), x ∉ s.map (·.1) → (setsL s H)[x]? = H[x]?
  | [], H, _ => rfl
  | p :: s, H, h => by
    simp only [List.map_cons, List.mem_cons, not_or] at h
    show (setsL s (H.set p.1 p.2))[x]? = _
    rw [setsL_ne s _ h.2, List.getElem?_set_ne (fun e => h.1 e.symm)]
theorem setsL_congr {x : Nat} : ∀ (s : List (Nat × AObj)) (H H' : List AObj), H[x]? = H'[x]? → (setsL s H)[x]? = (setsL s H')[x]?
  | [], H, H', h => h
  | p :: s, H, H', h => by
    refine setsL_congr s (H.set p.1 p.2) (H'.set p.1 p.2) ?_
    by_cases he : p.1 = x
    · rw [List.getElem?_set, List.getElem?_set, if_pos he, if_pos he]
      have : (p.1 < H.length) ↔ (p.1 < H'.length) := by
        rw [he]
        constructor
        · intro hl; rw [List.getElem?_eq_getElem hl] at h
          exact (List.getElem?_eq_some_iff.1 h.symm).1
        · intro hl; rw [List.getElem?_eq_getElem hl] at h
          exact (List.getElem?_eq_some_iff.1 h).1
      by_cases hl : p.1 < H.length
      · rw [if_pos hl, if_pos (this.1 hl)]
      · rw [if_neg hl, if_neg (fun h => hl (this.2 h))]
    · rw [List.getElem?_set_ne he, List.getElem?_set_ne he]; exact h
theorem Chg.len (c : Chg) (H : List AObj) (na : Nat) : H.length ≤ (c.app H na).length := by
  unfold Chg.app
  split
  · rename_i o _; have := (plc_len (H := setsL c.sets H) (na := na) o).1; rw [setsL_len] at this; exact this
  · rw [setsL_len]; exact Nat.le_refl _
theorem Chg.app_ne {c : Chg} {H : List AObj} {na x : Nat} (hna : na ≤ H.length) (h : ¬ c.aff na x) : (c.app H na)[x]? = H[x]? := by
  unfold Chg.aff at h
  have h1 : x ∉ c.sets.map (·.1) := fun e => h (.inl e)
  unfold Chg.app
  split
  · rename_i o ho
    rw [plc_get (by rw [setsL_len]; exact hna), if_neg (fun e => h (.inr ⟨by rw [ho]; rfl, e⟩)), setsL_ne _ _ h1]
  · exact setsL_ne _ _ h1

/-- the dead behind: a heap of length N -/
def pad (N : Nat) (H : List AObj) : List AObj := H ++ List.replicate (N - H.length) .dead
theorem pad_len {N : Nat} {H : List AObj} (h : H.length ≤ N) : (pad N H).length = N := by simp [pad]; omega
theorem pad_lt {N : Nat} {H : List AObj} {x : Nat} (h : x < H.length) : (pad N H)[x]? = H[x]? := by
  unfold pad; rw [List.getElem?_append_left h]
theorem pad_ge {N : Nat} {H : List AObj} {x : Nat} (h : H.length ≤ x) (hx : x < N) : (pad N H)[x]? = some .dead := by
  unfold pad; rw [List.getElem?_append_right h, List.getElem?_replicate, if_pos (by omega)]
theorem pad_self (H : List AObj) : pad H.length H = H := by simp [pad]

/-- the changed heap, padded, at what changed -/
theorem Chg.app_aff {c : Chg} {H H' : List AObj} {x N : Nat} (hN : (c.app H H.length).length ≤ N) (hs : ∀ s ∈ c.sets, s.1 < H.length) (hl : H'.length = N) (he : H'[x]? = (pad N H)[x]?) (ha : c.aff H.length x) :
    (c.app H' H.length)[x]? = (pad N (c.app H H.length))[x]? := by
  have hle : H.length ≤ N := Nat.le_trans (c.len H H.length) hN
  unfold Chg.app at hN ⊢
  split
  · rename_i o ho
    rw [ho] at hN
    simp only [] at hN
    have hlt : H.length < N := by
      have := (plc_len (H := setsL c.sets H) (na := H.length) o).2 (by rw [setsL_len]; exact Nat.le_refl _)
      omega
    rw [plc_get (by rw [setsL_len]; omega)]
    by_cases hx : x = H.length
    · rw [if_pos hx, hx, pad_lt ((plc_len (H := setsL c.sets H) (na := H.length) o).2 (by rw [setsL_len]; exact Nat.le_refl _)), plc_get (by rw [setsL_len]; exact Nat.le_refl _), if_pos rfl]
    · rw [if_neg hx]
      rcases ha with ha | ⟨_, ha⟩
      · obtain ⟨s, hs1, hs2⟩ := List.mem_map.1 ha
        have hxl : x < H.length := by rw [← hs2]; exact hs s hs1
        rw [pad_lt (by have := (plc_len (H := setsL c.sets H) (na := H.length) o).1; rw [setsL_len] at this; omega), plc_get (by rw [setsL_len]; exact Nat.le_refl _), if_neg hx]
        refine setsL_congr _ _ _ ?_
        rw [he, pad_lt hxl]
      · exact absurd ha hx
  · rename_i ho
    rcases ha with ha | ⟨hn, ha⟩
    · obtain ⟨s, hs1, hs2⟩ := List.mem_map.1 ha
      have hxl : x < H.length := by rw [← hs2]; exact hs s hs1
      rw [pad_lt (by rw [setsL_len]; exact hxl)]
      refine setsL_congr _ _ _ ?_
      rw [he, pad_lt hxl]
    · rw [ho] at hn; cases hn
theorem Chg.aff_lt {c : Chg} {H : List AObj} {x : Nat} (hs : ∀ s ∈ c.sets, s.1 < H.length) (h : c.aff H.length x) : x < (c.app H H.length).length := by
  rcases h with h | ⟨h, rfl⟩
  · obtain ⟨s, hs1, hs2⟩ := List.mem_map.1 h
    have := hs s hs1
    have := c.len H H.length
    omega
  · unfold Chg.app
    cases hn : c.new with
    | none => rw [hn] at h; cases h
    | some o => exact (plc_len (H := setsL c.sets H) (na := H.length) o).2 (by rw [setsL_len]; exact Nat.le_refl _)
theorem Chg.pad_ne {c : Chg} {H : List AObj} {x N : Nat} (hN : (c.app H H.length).length ≤ N) (h : ¬ c.aff H.length x) : (pad N (c.app H H.length))[x]? = (pad N H)[x]? := by
  have hle := c.len H H.length
  by_cases hx : x < H.length
  · rw [pad_lt (by omega), pad_lt hx, Chg.app_ne (Nat.le_refl _) h]
  · by_cases hxN : x < N
    · rw [pad_ge (H := H) (by omega) hxN]
      by_cases hx' : x < (c.app H H.length).length
      · exfalso
        unfold Chg.app at hx'
        split at hx'
        · rename_i o ho
          unfold plc at hx'
          rw [setsL_len, if_pos rfl] at hx'
          simp [setsL_len] at hx'
          exact h (.inr ⟨by rw [ho]; rfl, by omega⟩)
        · rw [setsL_len] at hx'; omega
      · rw [pad_ge (by omega) hxN]
    · rw [List.getElem?_eq_none (by rw [pad_len hN]; omega), List.getElem?_eq_none (by rw [pad_len (by omega)]; omega)]

section
variable (P : Program) (Gl : Nat → Option (List PV))

/-- a call in a region that draws its order: what it looks at, what it changes -/
def dcallP (f : Nat) (args : List AV) (H : List AObj) (k : AV → List AObj → List Nat → List Nat → Prop) : Prop :=
  ∃ (R : List Nat) (sets : List (Nat × AObj)) (r : AV), (∀ s ∈ sets, s.1 < H.length) ∧
    (∀ H2 : List AObj, (∀ a ∈ R, ∀ o, H[a]? = some o → H2[a]? = some o) → CallsA P Gl f args H2 (fun v H' => v = r ∧ H' = setsL sets H2)) ∧ k r (setsL sets H) R (sets.map (·.1))

def wantedA (c : COper) (tm : List AV) : Prop := match c.guard with
  | none => True
  | some (t, want) => tm.getD t .any = .p (.bool want)
def putL (tm : List AV) (d : Option Nat) (v : AV) : List AV := match d with
  | some d => tm.set d v
  | none => tm

/-- what the operation did, in the order of the text -/
inductive Did (c : COper) (tm : List AV) (H : List AObj) : AV → Chg → List Nat → List Nat → Prop
  | skip (t : Nat) (want b : Bool) (hg : c.guard = some (t, want)) (hv : tm.getD t .any = .p (.bool b)) (hb : b ≠ want) : Did c tm H undefA ⟨[], none⟩ [] []
  | skipU (t : Nat) (want : Bool) (hg : c.guard = some (t, want)) (hv : tm.getD t .any = .p (.tuple [])) : Did c tm H undefA ⟨[], none⟩ [] []
  | run (v : AV) (e : Eff) (hw : wantedA c tm) (hc : c.op.isCall = false) (hs : step Gl tm H H.length c.op = some (v, e)) : Did c tm H v e.chg (fpOf tm H c.op).1 (fpOf tm H c.op).2
  | call (v : AV) (sets : List (Nat × AObj)) (R : List Nat) (hw : wantedA c tm) (hc : c.op.isCall = true) (hs : ∀ s ∈ sets, s.1 < H.length)
      (h : ∀ tm' H2, (∀ t ∈ c.op.slots, tm'.getD t .any = tm.getD t .any) → (∀ a ∈ R, ∀ o, H[a]? = some o → H2[a]? = some o) → evOp (EP P Gl) tm' H2 (fun v' H' => v' = v ∧ H' = setsL sets H2) c.op) :
      Did c tm H v ⟨sets, none⟩ R (sets.map (·.1))
end

section
variable {P : Program} {Gl : Nat → Option (List PV)}

theorem step_eff {tm : List AV} {H : List AObj} {c : COp} {v : AV} {e : Eff} (hs : step Gl tm H H.length c = some (v, e)) :
    (∀ s ∈ e.set, s.1 < H.length ∧ s.1 ∈ (fpOf tm H c).2) ∧ (e.new.isSome = true → H.length ∈ (fpOf tm H c).2) := by
  have pr : ∀ {v'}, pureE v' = some (v, e) → (∀ s ∈ e.set, s.1 < H.length ∧ s.1 ∈ (fpOf tm H c).2) ∧ (e.new.isSome = true → H.length ∈ (fpOf tm H c).2) := by
    intro v' h
    unfold pureE at h
    cases h
    exact ⟨fun s hs => (by cases hs), fun h => (by cases h)⟩
  have bnd : ∀ {β : Type} {o : Option β} {f : β → AV}, (o.bind fun b => pureE (f b)) = some (v, e) → (∀ s ∈ e.set, s.1 < H.length ∧ s.1 ∈ (fpOf tm H c).2) ∧ (e.new.isSome = true → H.length ∈ (fpOf tm H c).2) := by
    intro β o f h
    obtain ⟨_, _, h2⟩ := Option.bind_eq_some_iff.1 h
    exact pr h2
  have nw : ∀ {v'} {o : AObj}, H.length ∈ (fpOf tm H c).2 → some (v', ({ new := some o } : Eff)) = some (v, e) → (∀ s ∈ e.set, s.1 < H.length ∧ s.1 ∈ (fpOf tm H c).2) ∧ (e.new.isSome = true → H.length ∈ (fpOf tm H c).2) := by
    intro v' o hm h
    cases h
    exact ⟨fun s hs => (by cases hs), fun _ => hm⟩
  cases c
  case alloc z => exact nw (by simp [fpOf, fpN]) hs
  case box x =>
    simp only [step] at hs
    cases hc : (evOpd tm x).cells? with
    | none => simp only [hc, Option.map_none] at hs; cases hs
    | some cs => simp only [hc, Option.map_some] at hs; exact nw (by simp [fpOf, fpN]) hs
  case buildSlice z len esz ps =>
    simp only [step] at hs
    cases hc : sFill tm ((List.replicate len z).flatten.map .p) ps with
    | none => simp only [hc, Option.map_none] at hs; cases hs
    | some cs => simp only [hc, Option.map_some] at hs; exact nw (by simp [fpOf, fpN]) hs
  case makeMap => exact nw (by simp [fpOf, fpN]) hs
  case bytesOf x =>
    simp only [step] at hs
    split at hs
    · exact nw (by simp [fpOf, fpN]) hs
    · cases hs
  case makeSlice z b l c' =>
    simp only [step] at hs
    split at hs
    · split at hs
      · exact nw (by simp [fpOf, fpN]) hs
      · cases hs
    · cases hs
  case store n x y =>
    simp only [step] at hs
    split at hs
    · rename_i a off hx
      split at hs
      · rename_i cs ha
        split at hs
        · split at hs
          · cases hs
            refine ⟨fun s h => ?_, fun h => (by cases h)⟩
            cases h
            exact ⟨(List.getElem?_eq_some_iff.1 ha).1, by simp [fpOf, fpN, fpOf_eq, hx, adK]⟩
          · cases hs
        · cases hs
      · cases hs
    · cases hs
  case insert kk m k x =>
    simp only [step] at hs
    split at hs
    · rename_i r ke hx hk
      split at hs
      · rename_i es ha
        split at hs
        · cases hs
        split at hs
        · cases hs
          refine ⟨fun s h => ?_, fun h => (by cases h)⟩
          cases h
          exact ⟨(List.getElem?_eq_some_iff.1 ha).1, by simp [fpOf, fpN, fpOf_eq, hx, adK]⟩
        · cases hs
          refine ⟨fun s h => ?_, fun h => (by cases h)⟩
          cases h
          exact ⟨(List.getElem?_eq_some_iff.1 ha).1, by simp [fpOf, fpN, fpOf_eq, hx, adK]⟩
        · cases hs
      · cases hs
    · cases hs
  case sliceArr n esz x lo hi =>
    simp only [step] at hs
    split at hs
    · split at hs
      · split at hs
        · split at hs
          · exact pr hs
          · cases hs
        · cases hs
      · cases hs
    · cases hs
  case copyB d s =>
    simp only [step] at hs
    cases hsr : sSrc H (evOpd tm s) with
    | none => simp [hsr] at hs
    | some new =>
      simp only [hsr, Option.bind_some] at hs
      unfold sCopy at hs
      split at hs
      · cases hs
        exact ⟨fun s h => (by cases h), fun h => (by cases h)⟩
      · rename_i es a off len hx
        split at hs
        · rename_i cs ha
          split at hs
          · cases hs
            refine ⟨fun s h => ?_, fun h => (by cases h)⟩
            cases h
            exact ⟨(List.getElem?_eq_some_iff.1 ha).1, by simp [fpOf, fpN, fpOf_eq, hx, adK]⟩
          · cases hs
        · cases hs
      · cases hs
  case append esz bytes s x =>
    simp only [step] at hs
    have add : ∀ new n, sAdd H H.length esz bytes (evOpd tm s) new n = some (v, e) → (∀ q ∈ e.set, q.1 < H.length ∧ q.1 ∈ (fpOf tm H (.append esz bytes s x)).2) ∧ (e.new.isSome = true → H.length ∈ (fpOf tm H (.append esz bytes s x)).2) := by
      intro new n h
      unfold sAdd at h
      split at h
      · split at h <;> first | (cases h; done) | (cases h; exact ⟨fun s hs => (by cases hs), fun h => (by cases h)⟩)
      · split at h
        · split at h
          · exact nw (by simp [fpOf, fpN]) h
          · cases h
        · rename_i es a off len hx
          split at h
          · rename_i cs ha
            split at h
            · cases h
              refine ⟨fun q h => ?_, fun _ => by simp [fpOf, fpN]⟩
              cases h
              exact ⟨(List.getElem?_eq_some_iff.1 ha).1, by simp [fpOf, fpN, fpOf_eq, hx, adK]⟩
            · cases h
          · cases h
        · cases h
    unfold sApp at hs
    split at hs
    · split at hs
      · split at hs
        · rename_i es b off n _ _ cs _ _
          cases hk : sTake (n * esz) (cs.drop off) with
          | none => simp [hk] at hs
          | some new => simp only [hk, Option.bind_some] at hs; exact add _ _ hs
        · cases hs
      · cases hs
    · split at hs
      · exact add _ _ hs
      · cases hs
    · exact add _ _ hs
    · split at hs
      · exact add _ _ hs
      · cases hs
    · cases hs
  case call => cases hs
  case callv => cases hs
  case lookup kk z g ok m k =>
    simp only [step] at hs
    split at hs
    · split at hs
      · split at hs
        · cases hs
        split at hs
        · exact pr hs
        · cases hz : sOf g (z.map .p) with
          | none => simp [hz] at hs
          | some q => simp only [hz, Option.bind_some] at hs; exact pr hs
        · cases hs
      · cases hs
    · cases hs
  case load n b x =>
    simp only [step] at hs
    cases h1 : sCells Gl H (evOpd tm x) with
    | none => simp [h1] at hs
    | some cs =>
      simp only [h1, Option.bind_some] at hs
      cases h2 : sTake n cs with
      | none => simp [h2] at hs
      | some ds =>
        simp only [h2, Option.bind_some] at hs
        cases h3 : sOf b ds with
        | none => simp [h3] at hs
        | some q => simp only [h3, Option.bind_some] at hs; exact pr hs
  case field x off n agg =>
    simp only [step] at hs
    cases h1 : (evOpd tm x).aggs? with
    | none => simp [h1] at hs
    | some cs =>
      simp only [h1] at hs
      cases h2 : sTake n (cs.drop off) with
      | none => simp [h2] at hs
      | some ds =>
        simp only [h2, Option.bind_some] at hs
        cases h3 : sOf agg ds with
        | none => simp [h3] at hs
        | some q => simp only [h3, Option.bind_some] at hs; exact pr hs
  case strOf x =>
    simp only [step] at hs
    split at hs
    · rename_i es a off len _
      split at hs
      · rename_i cs _
        cases h2 : sTake len (cs.drop off) with
        | none => simp [h2] at hs
        | some ds =>
          simp only [h2, Option.bind_some] at hs
          cases h3 : sStr ds with
          | none => simp [h3] at hs
          | some q => simp only [h3, Option.bind_some] at hs; exact pr hs
      · cases hs
    · exact pr hs
    · cases hs
  case build z ps =>
    simp only [step] at hs
    cases h1 : sFill tm (z.map .p) ps with
    | none => simp [h1] at hs
    | some cs => simp only [h1, Option.bind_some] at hs; exact pr hs
  case ari op x y =>
    simp only [step] at hs
    split at hs
    · split at hs
      · obtain ⟨_, _, h2⟩ := Option.bind_eq_some_iff.1 hs; exact pr h2
      · cases hs
    · split at hs
      · split at hs
        · exact pr hs
        · cases hs
      · cases hs
    · cases hs
  case cmp op x y =>
    simp only [step] at hs
    cases h1 : sCmp op (evOpd tm x) (evOpd tm y) with
    | none => simp [h1] at hs
    | some cs => simp only [h1, Option.bind_some] at hs; exact pr hs
  case eqAgg neg kinds x y =>
    simp only [step] at hs
    split at hs
    · rename_i cs ds _ _
      cases h1 : sEqCells kinds cs ds with
      | none => simp [h1] at hs
      | some b => simp only [h1, Option.bind_some] at hs; exact pr hs
    · cases hs
  all_goals
    simp only [step] at hs
    first
      | exact pr hs
      | (split at hs <;> first | exact pr hs | (cases hs; done) | exact bnd hs | exact bnd (f := fun b => b) hs | (split at hs <;> first | exact pr hs | (cases hs; done) | exact bnd hs | (split at hs <;> first | exact pr hs | (cases hs; done))))


end
end
end Go.Av
