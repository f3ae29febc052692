/- An abstract machine for the modelled code, and what its runs say of real calls. Part of a proof of a given statement: for every input the law returns true and the arguments read as before; no condition beyond the given row. -/
import Derived.Test.YtkemhhfbpniioaaGreatDoorAvDraw3
namespace Go.Av
noncomputable section
section
variable {P : Program} {Gl : Nat → Option (List PV)}

theorem chkOpers_spec {ops : Array Oper} : ∀ (os : List Oper) (cs : List COper), chkOpers P ops os cs = true → os.length = cs.length ∧ ∀ (i : Nat) o c, os[i]? = some o → cs[i]? = some c →
    o.dst = c.dst ∧ chkOp P o.op c.op = true ∧ chkGuard ops o.guard c.guard = true
  | [], [], _ => ⟨rfl, fun i o c h => by simp at h⟩
  | o :: os, c :: cs, h => by
    simp only [chkOpers, Bool.and_eq_true, beq_iff_eq] at h
    obtain ⟨⟨⟨h1, h2⟩, h3⟩, h4⟩ := h
    obtain ⟨r1, r2⟩ := chkOpers_spec os cs h4
    refine ⟨by simp [r1], fun i o' c' ho hc => ?_⟩
    cases i with
    | zero => simp at ho hc; subst ho; subst hc; exact ⟨h1, h2, h3⟩
    | succ i => exact r2 i o' c' (by simpa using ho) (by simpa using hc)
  | [], _ :: _, h => by simp [chkOpers] at h
  | _ :: _, [], h => by simp [chkOpers] at h

theorem statE_spec {all : List COper} : ∀ (os : List Oper) (cs : List COper) (j : Nat), statE all j os cs = true → ∀ (i : Nat) o c, os[i]? = some o → cs[i]? = some c →
    (∀ e ∈ o.after, Region.binds .any e = true → e.on < j + i) ∧ edgeBits all o = c.bef
  | [], [], _, _ => fun i o c h => by simp at h
  | o :: os, c :: cs, j, h => by
    simp only [statE, Bool.and_eq_true, beq_iff_eq] at h
    obtain ⟨⟨h1, h2⟩, h3⟩ := h
    intro i o' c' ho hc
    cases i with
    | zero =>
      simp at ho hc; subst ho; subst hc
      refine ⟨fun e he hb => ?_, h2⟩
      have := List.all_eq_true.1 h1 e (by simpa using he)
      simp only [hb, Bool.not_true, Bool.false_or, decide_eq_true_eq] at this
      omega
    | succ i =>
      have := statE_spec os cs (j + 1) h3 i o' c' (by simpa using ho) (by simpa using hc)
      have e : j + (i + 1) = j + 1 + i := by omega
      rw [e]; exact this
  | [], _ :: _, _, h => by simp [statE] at h
  | _ :: _, [], _, h => by simp [statE] at h

theorem statS_spec {all : List COper} {i t b : Nat} : ∀ (cs : List COper) (j : Nat), statS all i t b j cs = true → ∀ (x : Nat) d, cs[x]? = some d → i ≠ j + x → d.dst ≠ some t ∧ (t ∈ d.slots → d.bef.testBit i = true ∨ b.testBit (j + x) = true)
  | [], _, _ => fun x d h => by simp at h
  | c :: cs, j, h => by
    simp only [statS, Bool.and_eq_true] at h
    obtain ⟨h1, h2⟩ := h
    intro x d hx hne
    cases x with
    | zero =>
      simp at hx; subst hx
      have hb : (i == j) = false := by simpa using hne
      simp only [hb, Bool.false_or, Bool.and_eq_true, bne_iff_ne, ne_eq, Bool.or_eq_true, Bool.not_eq_true'] at h1
      refine ⟨h1.1, fun ht => ?_⟩
      rcases h1.2 with h | h
      · have : c.slots.contains t = true := by rw [List.contains_iff_mem]; exact ht
        rw [this] at h; cases h
      · exact h
    | succ x =>
      have := statS_spec cs (j + 1) h2 x d (by simpa using hx) (by omega)
      have e : j + (x + 1) = j + 1 + x := by omega
      rw [e]; exact this
theorem statW_spec {all : List COper} : ∀ (cs : List COper) (i : Nat), statW all i cs = true → ∀ (x : Nat) c t, cs[x]? = some c → c.dst = some t → ∀ (y : Nat) d, all[y]? = some d → i + x ≠ y →
    d.dst ≠ some t ∧ (t ∈ d.slots → d.bef.testBit (i + x) = true ∨ c.bef.testBit y = true)
  | [], _, _ => fun x c t h => by simp at h
  | c :: cs, i, h => by
    simp only [statW, Bool.and_eq_true] at h
    obtain ⟨h1, h2⟩ := h
    intro x c' t hx hd y d hy hne
    cases x with
    | zero =>
      simp at hx; subst hx
      rw [hd] at h1
      have := statS_spec all 0 h1 y d hy (by simpa using hne)
      simpa using this
    | succ x =>
      have e : i + (x + 1) = i + 1 + x := by omega
      rw [e] at hne ⊢
      exact statW_spec cs (i + 1) h2 x c' t (by simpa using hx) hd y d hy hne

theorem foldEdge {all : List COper} (x : Nat) : ∀ (l : List Edge) (b : Nat), (l.foldl (fun b e => if Region.binds .any e then (match all[e.on]? with
  | some d => b ||| (d.bef ||| 1 <<< e.on)
  | none => b) else b) b).testBit x = true → b.testBit x = true ∨ ∃ e ∈ l, Region.binds .any e = true ∧ ∃ d, all[e.on]? = some d ∧ (d.bef.testBit x = true ∨ x = e.on)
  | [], b, h => .inl h
  | e :: l, b, h => by
    simp only [List.foldl_cons] at h
    rcases foldEdge x l _ h with h1 | ⟨e', he', h2⟩
    · by_cases hb : Region.binds .any e = true
      · rw [if_pos hb] at h1
        cases hd : all[e.on]? with
        | none => rw [hd] at h1; exact .inl h1
        | some d =>
          rw [hd] at h1
          simp only [Nat.testBit_or, Bool.or_eq_true, Nat.one_shiftLeft, Nat.testBit_two_pow, decide_eq_true_eq] at h1
          rcases h1 with h1 | h1 | h1
          · exact .inl h1
          · exact .inr ⟨e, .head _, hb, d, hd, .inl h1⟩
          · exact .inr ⟨e, .head _, hb, d, hd, .inr (by omega)⟩
      · rw [if_neg hb] at h1; exact .inl h1
    · exact .inr ⟨e', .tail _ he', h2⟩

/-- all that is known of the region -/
structure Plan (P : Program) (Gl : Nat → Option (List PV)) (ops : Array Oper) (cs : List COper) (tms : Nat → List AV) (Hs : Nat → List AObj) (vs : Nat → AV) (es : Nat → Chg) (Rs As : Nat → List Nat) : Prop extends Path P Gl cs tms Hs vs es Rs As where
  size : cs.length ≤ ops.size
  apart : ∀ (i i' : Nat) c c', i' < i → cs[i]? = some c → cs[i']? = some c' → apartFp ⟨i, Rs i, As i, c.bef⟩ ⟨i', Rs i', As i', c'.bef⟩ = true
  op : ∀ (i : Nat) o c, ops[i]? = some o → cs[i]? = some c → o.dst = c.dst ∧ chkOp P o.op c.op = true ∧ chkGuard ops o.guard c.guard = true
  edge : ∀ (i : Nat) o c, ops[i]? = some o → cs[i]? = some c → (∀ e ∈ o.after, Region.binds .any e = true → e.on < i) ∧ edgeBits cs o = c.bef
  slot : ∀ (i : Nat) c t, cs[i]? = some c → c.dst = some t → ∀ (j : Nat) d, cs[j]? = some d → i ≠ j → d.dst ≠ some t ∧ (t ∈ d.slots → d.bef.testBit i = true ∨ c.bef.testBit j = true)

variable {ops : Array Oper} {cs : List COper} {tms : Nat → List AV} {Hs : Nat → List AObj} {vs : Nat → AV} {es : Nat → Chg} {Rs As : Nat → List Nat}

theorem Plan.bef_closed (p : Plan P Gl ops cs tms Hs vs es Rs As) {L : Nat → Prop} (hL : ∀ (j : Nat) c b, cs[j]? = some c → L j → c.bef.testBit b = true → L b)
    {j : Nat} {o : Oper} {c : COper} (ho : ops[j]? = some o) (hc : cs[j]? = some c) (he : ∀ e ∈ o.after, Region.binds .any e = true → L e.on) {b : Nat} (hb : c.bef.testBit b = true) : L b := by
  rw [← (p.edge j o c ho hc).2] at hb
  rcases foldEdge b o.after.toList 0 hb with h | ⟨e, h1, h2, d, h3, h4⟩
  · simp at h
  · have hle := he e (by simpa using h1) h2
    rcases h4 with h4 | rfl
    · exact hL e.on d b h3 hle h4
    · exact hle
theorem Plan.get (p : Plan P Gl ops cs tms Hs vs es Rs As) {j : Nat} {c : COper} (hc : cs[j]? = some c) : ∃ o, ops[j]? = some o := by
  have hlt := (List.getElem?_eq_some_iff.1 hc).1
  have hlt := Nat.lt_of_lt_of_le hlt p.size
  exact ⟨ops[j], Array.getElem?_eq_getElem hlt⟩
theorem Plan.bef_lt (p : Plan P Gl ops cs tms Hs vs es Rs As) : ∀ (j : Nat) (c : COper) (b : Nat), cs[j]? = some c → c.bef.testBit b = true → b < j := by
  intro j
  induction j using Nat.strongRecOn with
  | _ j ih =>
    intro c b hc hb
    obtain ⟨o, ho⟩ := p.get hc
    rw [← (p.edge j o c ho hc).2] at hb
    rcases foldEdge b o.after.toList 0 hb with h | ⟨e, h1, h2, d, h3, h4⟩
    · simp at h
    · have hlt := (p.edge j o c ho hc).1 e (by simpa using h1) h2
      rcases h4 with h4 | rfl
      · have := ih e.on hlt d b h3 h4; omega
      · exact hlt

theorem Did.aff {c : COper} {tm : List AV} {H : List AObj} {v : AV} {e : Chg} {R A : List Nat} (d : Did P Gl c tm H v e R A) : (∀ s ∈ e.sets, s.1 < H.length) ∧ ∀ x, e.aff H.length x → x ∈ A := by
  cases d with
  | skip t want b hg hv hb => exact ⟨fun s h => by simp at h, fun x h => by simp [Chg.aff] at h⟩
  | skipU t want hg hv => exact ⟨fun s h => by simp at h, fun x h => by simp [Chg.aff] at h⟩
  | run v e hw hc hs =>
    obtain ⟨h1, h2⟩ := step_eff hs
    refine ⟨fun s h => (h1 s (by simpa [Eff.chg] using h)).1, fun x h => ?_⟩
    rcases h with h | ⟨h, rfl⟩
    · obtain ⟨s, hs1, hs2⟩ := List.mem_map.1 h
      rw [← hs2]
      exact (h1 s (by simpa [Eff.chg] using hs1)).2
    · exact h2 h
  | call v sets R hw hc hs h =>
    refine ⟨hs, fun x hx => ?_⟩
    rcases hx with hx | ⟨hx, _⟩
    · exact hx
    · cases hx

/-- operation i changes the object x -/
def Aff (Hs : Nat → List AObj) (es : Nat → Chg) (i x : Nat) : Prop := (es i).aff (Hs i).length x

theorem Plan.conflict (p : Plan P Gl ops cs tms Hs vs es Rs As) {i j x : Nat} {c d : COper} (hi : cs[i]? = some c) (hj : cs[j]? = some d) (ha : Aff Hs es i x) (hb : x ∈ Rs j ∨ Aff Hs es j x) :
    (i < j → d.bef.testBit i = true) ∧ (j < i → c.bef.testBit j = true) := by
  have h1 := (p.did i c hi).aff.2 x ha
  have h2 : x ∈ Rs j ∨ x ∈ As j := hb.imp id ((p.did j d hj).aff.2 x)
  refine ⟨fun hlt => ?_, fun hlt => ?_⟩
  · exact apartFp_spec (p.apart j i d c hlt hj hi) (.inl ⟨h1, h2⟩)
  · refine apartFp_spec (x := x) (p.apart i j c d hlt hi hj) ?_
    rcases h2 with h2 | h2
    · exact .inr ⟨h1, h2⟩
    · exact .inl ⟨h2, .inr h1⟩
theorem Plan.lenS (p : Plan P Gl ops cs tms Hs vs es Rs As) {i : Nat} (hi : i < cs.length) : (Hs i).length ≤ (Hs (i + 1)).length := by
  rw [p.hp i _ (List.getElem?_eq_getElem hi)]; exact Chg.len _ _ _
theorem Plan.len (p : Plan P Gl ops cs tms Hs vs es Rs As) {i : Nat} : ∀ (k : Nat), i + k ≤ cs.length → (Hs i).length ≤ (Hs (i + k)).length
  | 0, _ => Nat.le_refl _
  | k + 1, h => Nat.le_trans (p.len k (by omega)) (p.lenS (i := i + k) (by omega))
theorem Plan.len' (p : Plan P Gl ops cs tms Hs vs es Rs As) {i j : Nat} (h : i ≤ j) (hj : j ≤ cs.length) : (Hs i).length ≤ (Hs j).length := by
  have := p.len (i := i) (j - i) (by omega)
  rwa [show i + (j - i) = j by omega] at this
theorem Plan.aff_lt (p : Plan P Gl ops cs tms Hs vs es Rs As) {i x : Nat} (hi : i < cs.length) (ha : Aff Hs es i x) : x < (Hs (i + 1)).length := by
  have hc := List.getElem?_eq_getElem hi
  rw [p.hp i _ hc]
  exact Chg.aff_lt (p.did i _ hc).aff.1 ha
/-- where nothing changes -/
theorem Plan.same (p : Plan P Gl ops cs tms Hs vs es Rs As) {i x N : Nat} (hN : (Hs cs.length).length ≤ N) : ∀ (k : Nat), i + k ≤ cs.length → (∀ j, i ≤ j → j < i + k → ¬ Aff Hs es j x) → (pad N (Hs (i + k)))[x]? = (pad N (Hs i))[x]?
  | 0, _, _ => rfl
  | k + 1, h, hn => by
    rw [← p.same hN k (by omega) (fun j h1 h2 => hn j h1 (by omega))]
    have hc := List.getElem?_eq_getElem (show i + k < cs.length by omega)
    have := p.len' (show i + k + 1 ≤ cs.length by omega) (Nat.le_refl _)
    rw [show i + (k + 1) = i + k + 1 by omega]
    rw [p.hp _ _ hc] at this ⊢
    exact Chg.pad_ne (by omega) (hn (i + k) (by omega) (by omega))
theorem putL_len (tm : List AV) (d : Option Nat) (v : AV) : (putL tm d v).length = tm.length := by cases d <;> simp [putL]
theorem Plan.tlen (p : Plan P Gl ops cs tms Hs vs es Rs As) : ∀ (k : Nat), k ≤ cs.length → (tms k).length = (tms 0).length
  | 0, _ => rfl
  | k + 1, h => by rw [p.tm k _ (List.getElem?_eq_getElem (show k < cs.length by omega)), putL_len]; exact p.tlen k (by omega)
theorem Plan.tsame (p : Plan P Gl ops cs tms Hs vs es Rs As) {i t : Nat} : ∀ (k : Nat), i + k ≤ cs.length → (∀ j c, i ≤ j → j < i + k → cs[j]? = some c → c.dst ≠ some t) → (tms (i + k))[t]? = (tms i)[t]?
  | 0, _, _ => rfl
  | k + 1, h, hn => by
    have hc := List.getElem?_eq_getElem (show i + k < cs.length by omega)
    rw [← p.tsame k (by omega) (fun j c h1 h2 => hn j c h1 (by omega)), show i + (k + 1) = i + k + 1 by omega, p.tm _ _ hc]
    have := hn (i + k) _ (by omega) (by omega) hc
    unfold putL
    split
    · rename_i d hd
      rw [List.getElem?_set_ne (fun e => this (by rw [hd, e]))]
    · rfl

/-- the state while the region runs in any order: L has run -/
structure InvD (cs : List COper) (tms : Nat → List AV) (Hs : Nat → List AObj) (es : Nat → Chg) (θ0 : Th) (w0 : World) (L : Nat → Prop) (θ : Th) (tm : List AV) (H : List AObj) (a : Act) (w : World) : Prop where
  hT : TmOk θ (Free θ H) w tm a
  hH : Hp θ H w
  evo : Evo θ0 (pad (Hs cs.length).length (Hs 0)) w0 θ H w
  old : ∀ b, b < (Hs 0).length → θ b = θ0 b
  len : H.length = (Hs cs.length).length
  tl : tm.length = (tms 0).length
  clo : ∀ (j : Nat) c b, cs[j]? = some c → L j → c.bef.testBit b = true → L b
  sl : ∀ (t j : Nat), j ≤ cs.length → (∀ (i : Nat) c, cs[i]? = some c → c.dst = some t → (i < j ↔ L i)) → tm[t]? = (tms j)[t]?
  hp : ∀ (x j : Nat), j ≤ cs.length → (∀ (i : Nat), i < cs.length → Aff Hs es i x → (i < j ↔ L i)) → H[x]? = (pad (Hs cs.length).length (Hs j))[x]?
  un : ∀ (j : Nat), j < cs.length → ¬ L j → (es j).new.isSome = true → θ (Hs j).length = none
end
end
end Go.Av
