/- An abstract machine for the modelled code, and what its runs say of real calls. Part of a proof of a given statement: for every input the law returns true and the arguments read as before; no condition beyond the given row. -/
import Derived.Test.YtgalebkdefaonaaDoorAvCtr
import Derived.WalkKit
import Derived.ProofKit
import Derived.OpenShut
import Derived.Deep.DeepHandedRow
import Derived.Lib.LaidTab
import Derived.WideKeyArgs
import Derived.SevenTiedAt
namespace Go.Av
noncomputable section
section
variable {P : Program}

inductive Sh (P : Program) : TypeId → List PV → Prop
 | bool (t : TypeId) (h : P.underlying t = some .bool) (b : Bool) : Sh P t [.bool b]
 | int (t : TypeId) (k : IntKind) (n : Int) (h : P.underlying t = some (.int k)) (h1 : k.min ≤ n) (h2 : n ≤ k.max) : Sh P t [.int k n]
 | str (t : TypeId) (s : List UInt8) (h : P.underlying t = some .string) (hl : s.length ≤ maxLen) : Sh P t [.str s]
 | slice (t e : TypeId) (rows : List (List PV)) (h : P.underlying t = some (.slice e)) (hl : rows.length ≤ maxLen) (hr : ∀ r ∈ rows, r.length = P.cellsOf e) (hs : ∀ r ∈ rows, Sh P e r) : Sh P t [.slice (P.cellsOf e) rows]
 | struct (t : TypeId) (fs : Array Field) (cells : List PV) (h : P.underlying t = some (.struct fs)) (hn : cells.length = P.cellsOf t)
   (hf : ∀ f ∈ fs.toList, Sh P f.type ((cells.drop f.offset).take (P.cellsOf f.type))) : Sh P t cells
 | array (t e : TypeId) (n : Nat) (cells : List PV) (h : P.underlying t = some (.array n e)) (hn : cells.length = P.cellsOf t)
   (hf : ∀ i, i < n → Sh P e ((cells.drop (i * P.cellsOf e)).take (P.cellsOf e))) : Sh P t cells

def tiles (P : Program) : List Field → Nat → Nat → Bool
 | [], n, m => n == m
 | f :: r, n, m => f.offset == n && tiles P r (n + P.cellsOf f.type) m
def plainB (P : Program) (T : List TypeId) : Bool := T.all fun t => match P.underlying t with
 | some .bool => true
 | some (.int _) => true
 | some .string => true
 | some (.slice e) => T.contains e && decide (0 < P.cellsOf e)
 | some (.struct fs) => tiles P fs.toList 0 (P.cellsOf t) && fs.toList.all fun f => T.contains f.type
 | some (.array n e) => T.contains e && n * P.cellsOf e == P.cellsOf t
 | _ => false

mutual
def flatD : DataW Unit → Option (List PV)
 | .lit (.int k n) => some [.int k n]
 | .lit (.bool b) => some [.bool b]
 | .lit (.string s) => some [.str s]
 | .agg ds => flatDs ds
 | _ => none
def flatDs : List (DataW Unit) → Option (List PV)
 | [] => some []
 | d :: ds => match flatD d, flatDs ds with
  | some x, some y => some (x ++ y)
  | _, _ => none
end

def RelCs (w : World) (ps : List PV) (cs : List Value) : Prop :=
 cs.length = ps.length ∧ (∀ c ∈ cs, c.oneCell' = true) ∧ ∀ (i : Nat) x, ps[i]? = some x → RelP (fun _ => True) w x (cs.getD i vundef)
theorem RelCs.one {w : World} {x : PV} {v : Value} (h : RelP (fun _ => True) w x v) (h1 : v.oneCell' = true) : RelCs w [x] [v] :=
 ⟨rfl, fun c hc => by simp at hc; subst hc; exact h1, fun i y hy => by
  cases i with
  | zero => simp at hy; subst hy; exact h
  | succ i => simp at hy⟩
theorem RelCs.append {w : World} {ps qs : List PV} {cs ds : List Value} (h : RelCs w ps cs) (k : RelCs w qs ds) : RelCs w (ps ++ qs) (cs ++ ds) := by
 refine ⟨by simp [h.1, k.1], fun c hc => ?_, fun i x hx => ?_⟩
 ·rcases List.mem_append.1 hc with hc | hc
  ·exact h.2.1 c hc
  ·exact k.2.1 c hc
 ·rw [getD_app, h.1]
  by_cases hi : i < ps.length
  ·rw [List.getElem?_append_left hi] at hx
   rw [if_pos hi]; exact h.2.2 i x hx
  ·rw [List.getElem?_append_right (by omega)] at hx
   rw [if_neg hi]; exact k.2.2 _ x hx

theorem cells_at {w : World} {base : Nat} {a : Addr} {n : Nat} {cs : List Value} (h : w.cells? base a n = some cs) : cs.length = n ∧ ∀ i, i < n → ∃ v, w.cell? (a.add i) = some v ∧ cs[i]? = some v := by
 unfold World.cells? at h
 split at h
 ·refine ⟨by simpa using Lib.mapM_length h, fun i hi => ?_⟩
  obtain ⟨v, h1, h2⟩ := Lib.mapM_at h i i (by simp [hi])
  exact ⟨v, h2, h1⟩
 ·cases h

section
variable {H : Type} {enc : TypeId × Value → H} {w : World} {sp : Nat → Bool} {held : Bool} {T : List TypeId}

theorem got_fields {n : Nat} {cs : List Value} {m : Nat} (ih : ∀ (t : TypeId) (cs : List Value) (x : DataW H × List MemPlace), t ∈ T → DataW.trod enc P w 0 sp held n t cs = some x → ∃ ps, Sh P t ps ∧ RelCs w ps cs) (hm : cs.length = m) :
  ∀ (fs : List Field) (k : Nat) (xs : List (DataW H × List MemPlace)), tiles P fs k m = true → (∀ f ∈ fs, f.type ∈ T) → k ≤ m →
  (fs.mapM fun f => DataW.trod enc P w 0 sp held n f.type ((cs.drop f.offset).take (P.cellsOf f.type))) = some xs →
  ∃ ps, ps.length = m - k ∧ (∀ f ∈ fs, k ≤ f.offset ∧ Sh P f.type ((ps.drop (f.offset - k)).take (P.cellsOf f.type))) ∧ RelCs w ps (cs.drop k)
 | [], k, xs, ht, _, hk, hx => by
  simp only [tiles, beq_iff_eq] at ht
  subst ht
  exact ⟨[], by simp, (fun f hf => (by cases hf)), by rw [List.drop_of_length_le (by omega)]; exact ⟨rfl, (fun c hc => (by cases hc)), fun i x hx => by simp at hx⟩⟩
 | f :: fs, k, xs, ht, hT, hk, hx => by
  simp only [tiles, Bool.and_eq_true, beq_iff_eq] at ht
  obtain ⟨ht1, ht2⟩ := ht
  simp only [List.mapM_cons, Option.bind_eq_bind, Option.bind_eq_some_iff, Option.pure_def, Option.some.injEq] at hx
  obtain ⟨y, hy, ys, hys, rfl⟩ := hx
  obtain ⟨ps, h1, h2⟩ := ih f.type _ y (hT f (by simp)) hy
  rw [ht1] at h2
  have tl : ∀ (fs : List Field) (k : Nat), tiles P fs k m = true → k ≤ m := by
   intro fs
   induction fs with
   | nil => intro k h; simp [tiles] at h; omega
   | cons g gs ih => intro k h; simp only [tiles, Bool.and_eq_true, beq_iff_eq] at h; have := ih _ h.2; omega
  have hk2 := tl _ _ ht2
  obtain ⟨qs, q1, q2, q3⟩ := got_fields ih hm fs (k + P.cellsOf f.type) ys ht2 (fun g hg => hT g (by simp [hg])) hk2 hys
  have hl : ps.length = P.cellsOf f.type := by have := h2.1; simp at this; omega
  refine ⟨ps ++ qs, by simp [hl, q1]; omega, fun g hg => ?_, ?_⟩
  ·rcases List.mem_cons.1 hg with rfl | hg
   ·refine ⟨by omega, ?_⟩
    rw [ht1, Nat.sub_self, List.drop_zero, List.take_append_of_le_length (by omega), List.take_of_length_le (by omega)]
    exact h1
   ·obtain ⟨g1, g2⟩ := q2 g hg
    refine ⟨by omega, ?_⟩
    have e : g.offset - k = ps.length + (g.offset - (k + P.cellsOf f.type)) := by omega
    rw [e, ← List.drop_drop, List.drop_left]
    exact g2
  ·have e : cs.drop k = (cs.drop k).take (P.cellsOf f.type) ++ cs.drop (k + P.cellsOf f.type) := by
    rw [← List.drop_drop, List.take_append_drop]
   rw [e]; exact h2.append q3

theorem got_items {n : Nat} {e : TypeId} (ih : ∀ (t : TypeId) (cs : List Value) (x : DataW H × List MemPlace), t ∈ T → DataW.trod enc P w 0 sp held n t cs = some x → ∃ ps, Sh P t ps ∧ RelCs w ps cs) (he : e ∈ T) (seg : Nat → Option (List Value)) :
  ∀ (is : List Nat) (xs : List (DataW H × List MemPlace)), (is.mapM fun i => (seg i).bind (DataW.trod enc P w 0 sp held n e)) = some xs →
  ∃ rows : List (List PV), rows.length = is.length ∧ (∀ r ∈ rows, Sh P e r) ∧ ∀ (j : Nat) i, is[j]? = some i → ∃ cs, seg i = some cs ∧ RelCs w (rows.getD j []) cs
 | [], xs, h => ⟨[], rfl, (fun r hr => (by cases hr)), fun j i h => by simp at h⟩
 | i :: is, xs, h => by
  simp only [List.mapM_cons, Option.bind_eq_bind, Option.bind_eq_some_iff, Option.pure_def, Option.some.injEq] at h
  obtain ⟨y, ⟨cs, hc, hy⟩, ys, hys, rfl⟩ := h
  obtain ⟨ps, h1, h2⟩ := ih e cs y he hy
  obtain ⟨rows, q1, q2, q3⟩ := got_items ih he seg is ys hys
  refine ⟨ps :: rows, by simp [q1], fun r hr => ?_, fun j i' hj => ?_⟩
  ·rcases List.mem_cons.1 hr with rfl | hr
   ·exact h1
   ·exact q2 r hr
  ·cases j with
   | zero => simp at hj; subst hj; exact ⟨cs, hc, by simpa using h2⟩
   | succ j => simpa using q3 j i' (by simpa using hj)

theorem got (hT : plainB P T = true) : ∀ (n : Nat) (t : TypeId) (cs : List Value) (x : DataW H × List MemPlace), t ∈ T → DataW.trod enc P w 0 sp held n t cs = some x → ∃ ps, Sh P t ps ∧ RelCs w ps cs
 | 0, t, cs, x, _, h => by simp [DataW.trod] at h
 | n + 1, t, cs, x, ht, h => by
  have ih := got hT n
  have hp := List.all_eq_true.1 hT t ht
  split at hp
  ·rename_i hu
   obtain ⟨b, rfl, _⟩ := DataW.trod_bool hu h
   exact ⟨[.bool b], .bool t hu b, .one (.bool b) rfl⟩
  ·rename_i k hu
   simp only [DataW.trod, hu] at h
   split at h <;> rename_i h0 <;> first | (cases h0; done) | skip
   all_goals try (simp at h0; done)
   all_goals try (cases h; done)
   ·simp only [Option.some.injEq] at h0
    cases h0
    split at h
    ·rename_i hw
     obtain ⟨rfl, hw⟩ := hw
     simp only [Lit.wf, Bool.and_eq_true, decide_eq_true_eq] at hw
     exact ⟨_, .int t _ _ hu hw.1 hw.2, .one (.int _ _) rfl⟩
    ·cases h
  ·rename_i hu
   simp only [DataW.trod, hu] at h
   split at h <;> rename_i h0 <;> first | (cases h0; done) | skip
   all_goals try (simp at h0; done)
   all_goals try (cases h; done)
   ·split at h
    ·rename_i s hw
     exact ⟨[.str s.data.toList], .str t _ hu (by simpa using hw), .one (.str _) rfl⟩
    ·cases h
  ·rename_i e hu
   simp only [Bool.and_eq_true, decide_eq_true_eq, List.contains_iff_mem] at hp
   obtain ⟨he, hpos⟩ := hp
   simp only [DataW.trod, hu] at h
   split at h <;> rename_i h0 <;> first | (cases h0; done) | skip
   all_goals try (simp at h0; done)
   all_goals try (cases h; done)
   ·exact ⟨[.slice (P.cellsOf e) []], .slice t e [] hu (by simp) (fun r hr => (by cases hr)) (fun r hr => (by cases hr)), .one (.sliceE _ none 0) rfl⟩
   ·simp only [Option.some.injEq, TypeDesc.slice.injEq] at h0
    subst h0
    rename_i a len cap
    split at h
    ·rename_i hb
     obtain ⟨elems, hel, _⟩ := Option.bind_eq_some_iff.1 h
     obtain ⟨rows, r1, r2, r3⟩ := got_items ih he (fun i => w.cells? 0 (a.add (i * P.cellsOf e)) (P.cellsOf e)) _ _ hel
     simp at r1
     have hrow : ∀ (i : Nat) r, rows[i]? = some r → ∃ cs, w.cells? 0 (a.add (i * P.cellsOf e)) (P.cellsOf e) = some cs ∧ RelCs w r cs := by
      intro i r hr
      have hi : i < len := by have := (List.getElem?_eq_some_iff.1 hr).1; omega
      obtain ⟨cs, c1, c2⟩ := r3 i i (by simp [hi])
      rw [List.getD_eq_getElem?_getD, hr] at c2
      exact ⟨cs, c1, c2⟩
     have hlen : ∀ r ∈ rows, r.length = P.cellsOf e := by
      intro r hr
      obtain ⟨i, hi⟩ := List.getElem?_of_mem hr
      obtain ⟨cs, c1, c2⟩ := hrow i r hi
      have := (cells_at c1).1
      have := c2.1
      omega
     refine ⟨[.slice (P.cellsOf e) rows], .slice t e rows hu (by omega) hlen r2, .one ?_ rfl⟩
     cases hrows : rows with
     | nil =>
      rw [hrows] at r1
      simp at r1
      subst r1
      exact .sliceE _ _ _
     | cons r0 rs =>
      have hl0 : len = (r0 :: rs).length := by rw [← hrows]; omega
      have hspot : a.spot = none := by
       obtain ⟨cs, c1, c2⟩ := hrow 0 r0 (by rw [hrows]; rfl)
       obtain ⟨v, v1, _⟩ := (cells_at c1).2 0 hpos
       simp only [Nat.zero_mul] at v1
       have e0 : (a.add 0).add 0 = a := by simp [Addr.add]
       rw [e0] at v1
       exact World.cell?_spot v1
      obtain ⟨blk, off, spot⟩ := a
      simp only at hspot
      subst hspot
      have hadd : ∀ i j, ((⟨blk, off, none⟩ : Addr).add i).add j = ⟨blk, off + (i + j), none⟩ := by
       intro i j
       unfold Addr.add
       by_cases hi : i = 0 <;> by_cases hj : j = 0 <;> simp [hi, hj, Nat.add_assoc]
      have hcell : ∀ (i : Nat) (r : List PV), (r0 :: rs)[i]? = some r → ∀ (j : Nat) x, r[j]? = some x → ∃ v, w.cell? ⟨blk, off + (i * P.cellsOf e + j), none⟩ = some v ∧ v.oneCell' = true ∧ RelP (fun _ => True) w x v := by
       intro i r hi j x hj
       rw [← hrows] at hi
       obtain ⟨cs, c1, c2⟩ := hrow i r hi
       have hjl : j < P.cellsOf e := by rw [← hlen r (List.mem_of_getElem? hi)]; exact (List.getElem?_eq_some_iff.1 hj).1
       obtain ⟨v, v1, v2⟩ := (cells_at c1).2 j hjl
       rw [hadd] at v1
       have := c2.2.2 j x hj
       rw [List.getD_eq_getElem?_getD, v2] at this
       exact ⟨v, v1, c2.2.1 v (List.mem_of_getElem? v2), this⟩
      have hval : ∃ val : Nat → Nat → Value, (∀ i j, (val i j).oneCell' = true) ∧ ∀ (i : Nat) (r : List PV), (r0 :: rs)[i]? = some r → ∀ (j : Nat) x, r[j]? = some x → w.cell? ⟨blk, off + (i * P.cellsOf e + j), none⟩ = some (val i j) ∧ RelP (fun _ => True) w x (val i j) := by
       refine ⟨fun i j => match w.cell? ⟨blk, off + (i * P.cellsOf e + j), none⟩ with
        | some v => if v.oneCell' then v else .bool true
        | none => .bool true, fun i j => ?_, fun i r hi j x hj => ?_⟩
       ·simp only
        split
        ·split
         ·assumption
         ·rfl
        ·rfl
       ·obtain ⟨v, v1, v2, v3⟩ := hcell i r hi j x hj
        simp only [v1, v2, if_true]
        exact ⟨trivial, v3⟩
      obtain ⟨val, w1, w2⟩ := hval
      rw [hl0]
      exact .slice (P.cellsOf e) (r0 :: rs) blk off cap val hpos (fun r hr => hlen r (by rw [hrows]; exact hr)) (by omega) trivial (fun i r hi j x hj => (w2 i r hi j x hj).1) w1 (fun i r hi j x hj => (w2 i r hi j x hj).2)
    ·cases h
  ·rename_i fs hu
   simp only [Bool.and_eq_true] at hp
   obtain ⟨ht1, ht2⟩ := hp
   simp only [DataW.trod, hu] at h
   skip
   ·split at h
    ·rename_i hl
     rw [Option.map_eq_some_iff] at h
     obtain ⟨xs, hx, _⟩ := h
     obtain ⟨ps, p1, p2, p3⟩ := got_fields ih hl fs.toList 0 xs ht1 (fun f hf => by have := List.all_eq_true.1 ht2 f hf; simpa using this) (Nat.zero_le _) hx
     exact ⟨ps, .struct t fs ps hu (by omega) (fun f hf => by simpa using (p2 f hf).2), by simpa using p3⟩
    ·cases h
  ·rename_i m e hu
   simp only [Bool.and_eq_true, beq_iff_eq, List.contains_iff_mem] at hp
   obtain ⟨he, hsz⟩ := hp
   simp only [DataW.trod, hu] at h
   skip
   ·split at h
    ·rename_i hl
     rw [Option.map_eq_some_iff] at h
     obtain ⟨xs, hx, _⟩ := h
     obtain ⟨rows, r1, r2, r3⟩ := got_items ih he (fun i => some ((cs.drop (i * P.cellsOf e)).take (P.cellsOf e))) (List.range m) xs (by simpa using hx)
     simp at r1
     have hrow : ∀ (i : Nat) r, rows[i]? = some r → RelCs w r ((cs.drop (i * P.cellsOf e)).take (P.cellsOf e)) := by
      intro i r hr
      have hi : i < m := by have := (List.getElem?_eq_some_iff.1 hr).1; omega
      obtain ⟨cs', c1, c2⟩ := r3 i i (by simp [hi])
      cases c1
      rw [List.getD_eq_getElem?_getD, hr] at c2
      exact c2
     have key : ∀ (rows : List (List PV)) (k : Nat), (∀ (i : Nat) r, rows[i]? = some r → RelCs w r ((cs.drop ((k + i) * P.cellsOf e)).take (P.cellsOf e))) → (k + rows.length) * P.cellsOf e = cs.length →
       RelCs w rows.flatten (cs.drop (k * P.cellsOf e)) ∧ ∀ i, i < rows.length → (rows.flatten.drop (i * P.cellsOf e)).take (P.cellsOf e) = rows.getD i [] := by
      intro rows
      induction rows with
      | nil => intro k _ hk; simp at hk; exact ⟨by rw [List.drop_of_length_le (by omega)]; exact ⟨rfl, (fun c hc => (by cases hc)), fun i x hx => by simp at hx⟩, fun i hi => by simp at hi⟩
      | cons r rs ih2 =>
       intro k hr hk
       simp only [List.length_cons] at hk
       have h1 := hr 0 r rfl
       simp only [Nat.add_zero] at h1
       obtain ⟨i1, i2⟩ := ih2 (k + 1) (fun i r hi => by have := hr (i + 1) r (by simpa using hi); rwa [show k + (i + 1) = k + 1 + i by omega] at this) (by rw [← hk]; congr 1; omega)
       have hle : (k + 1) * P.cellsOf e ≤ cs.length := by rw [← hk]; exact Nat.mul_le_mul_right _ (by omega)
       rw [Nat.succ_mul] at hle
       have hrl : r.length = P.cellsOf e := by have := h1.1; simp at this; omega
       refine ⟨?_, fun i hi => ?_⟩
       ·have e1 : cs.drop (k * P.cellsOf e) = (cs.drop (k * P.cellsOf e)).take (P.cellsOf e) ++ cs.drop ((k + 1) * P.cellsOf e) := by
         rw [Nat.succ_mul, ← List.drop_drop, List.take_append_drop]
        rw [e1, List.flatten_cons]; exact h1.append i1
       ·cases i with
        | zero => simp only [Nat.zero_mul, List.drop_zero, List.flatten_cons, List.getD_cons_zero]; rw [List.take_append_of_le_length (by omega), List.take_of_length_le (by omega)]
        | succ i =>
         simp only [List.flatten_cons, List.getD_cons_succ]
         rw [Nat.succ_mul, Nat.add_comm, ← hrl, ← List.drop_drop, List.drop_left, hrl]
         exact i2 i (by simpa using hi)
     obtain ⟨k1, k2⟩ := key rows 0 (by simpa using hrow) (by rw [r1, Nat.zero_add, hsz, hl])
     simp only [Nat.zero_mul, List.drop_zero] at k1
     refine ⟨rows.flatten, .array t e m _ hu (by have := k1.1; omega) (fun i hi => ?_), k1⟩
     rw [k2 i (by omega)]
     have : i < rows.length := by omega
     rw [List.getD_eq_getElem?_getD, List.getElem?_eq_getElem this]
     exact r2 _ (List.getElem_mem _)
    ·cases h
  ·cases hp
end
end
end
end Go.Av
