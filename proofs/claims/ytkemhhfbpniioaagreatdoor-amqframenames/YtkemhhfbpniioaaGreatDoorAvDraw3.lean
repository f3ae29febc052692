/- An abstract machine for the modelled code, and what its runs say of real calls. Part of a proof of a given statement: for every input the law returns true and the arguments read as before; no condition beyond the given row. -/
import Derived.Test.YtkemhhfbpniioaaGreatDoorAvDraw2
namespace Go.Av
noncomputable section
section
variable {P : Program} {Gl : Nat → Option (List PV)}

theorem meets_spec {a b : List Nat} {x : Nat} (ha : x ∈ a) (hb : x ∈ b) : meets a b = true := by
  unfold meets
  rw [List.any_eq_true]
  refine ⟨x, ha, ?_⟩
  rw [List.any_eq_true]
  exact ⟨x, hb, by simp⟩
theorem apartFp_spec {a b : Fp} (h : apartFp a b = true) {x : Nat} (h1 : (x ∈ b.affs ∧ (x ∈ a.reads ∨ x ∈ a.affs)) ∨ (x ∈ a.affs ∧ x ∈ b.reads)) : a.bef.testBit b.i = true := by
  rw [apartFp_eq] at h
  simp only [Bool.or_eq_true, Bool.not_eq_true', Bool.or_eq_false_iff] at h
  rcases h with ⟨⟨h2, h3⟩, h4⟩ | h
  · rcases h1 with ⟨k1, k2 | k2⟩ | ⟨k1, k2⟩
    · rw [meets_spec k1 k2] at h2; cases h2
    · rw [meets_spec k1 k2] at h3; cases h3
    · rw [meets_spec k1 k2] at h4; cases h4
  · exact h
theorem meets_nil (a : List Nat) : meets a [] = false := by unfold meets; induction a <;> simp_all
theorem apart_nil (a : Fp) (i b : Nat) : apartFp a ⟨i, [], [], b⟩ = true := by
  rw [apartFp_eq]
  simp [meets]
theorem apart_nil' (a : Fp) (i b : Nat) : apartFp ⟨i, [], [], b⟩ a = true := by
  rw [apartFp_eq]
  simp [meets]
theorem slim_sub : ∀ (l : List Fp) (b : Fp), b ∈ l → b ∈ slim l ∨ (b.reads = [] ∧ b.affs = [])
  | a :: r, b, h => by
    rcases List.mem_cons.1 h with rfl | h
    · unfold slim
      split
      · split
        · exact .inr ⟨by assumption, by assumption⟩
        · exact .inl (.head _)
      · exact .inl (.head _)
    · unfold slim
      rcases slim_sub r b h with h | h
      · left
        split
        · split
          · exact h
          · exact .tail _ h
        · exact .tail _ h
      · exact .inr h
theorem apart_plain_r {a b : Fp} (h : b.reads = [] ∧ b.affs = []) : apartFp a b = true := by
  simp [apartFp_eq, h.1, h.2, meets]
theorem apart_plain_l {a b : Fp} (h : a.reads = [] ∧ a.affs = []) : apartFp a b = true := by
  have e : ∀ l, meets l [] = false := fun l => by induction l <;> simp_all [meets]
  have e2 : ∀ l, meets [] l = false := fun l => rfl
  simp [apartFp_eq, h.1, h.2, e, e2]
theorem bern_slim : ∀ (l : List Fp), bern (slim l) = true → bern l = true
  | [], _ => rfl
  | a :: r, h => by
    by_cases hp : a.reads = [] ∧ a.affs = []
    · have e : slim (a :: r) = slim r := by simp [slim, hp.1, hp.2]
      rw [e] at h
      simp only [bern, Bool.and_eq_true, List.all_eq_true]
      exact ⟨fun b _ => apart_plain_l hp, bern_slim r h⟩
    · have e : slim (a :: r) = a :: slim r := by
        conv => lhs; unfold slim
        split
        · rename_i h1
          split
          · rename_i h2; exact absurd ⟨h1, h2⟩ hp
          · rfl
        · rfl
      rw [e] at h
      simp only [bern, Bool.and_eq_true, List.all_eq_true] at h ⊢
      refine ⟨fun b hb => ?_, bern_slim r h.2⟩
      rcases slim_sub r b hb with h1 | h1
      · exact h.1 b h1
      · exact apart_plain_r h1
theorem bern_cons {a : Fp} {r : List Fp} (h : bern (a :: r) = true) : (∀ b ∈ r, apartFp a b = true) ∧ bern r = true := by
  simp only [bern, Bool.and_eq_true, List.all_eq_true] at h
  exact h

theorem set_self {tm : List AV} {t : Nat} {x : AV} (h : tm.getD t .any = x) (hx : x ≠ .any) : tm.set t x = tm := by
  apply List.ext_getElem? 
  intro i
  by_cases hi : t = i
  · subst hi
    rw [List.getD_eq_getElem?_getD] at h
    cases ht : tm[t]? with
    | none => rw [ht] at h; exact absurd h.symm hx
    | some y =>
      rw [ht] at h
      simp at h
      subst h
      rw [List.getElem?_set_self (List.getElem?_eq_some_iff.1 ht).1]
  · rw [List.getElem?_set_ne hi]

theorem evD1_step {α : Type} (E : Env α) (dc : Nat → List AV → List AObj → (AV → List AObj → List Nat → List Nat → α) → α) (tm : List AV) (hp : List AObj) (k : AV → List AObj → List Nat → List Nat → α) (c : COp) (hc : c.isCall = false) :
    evD1 E dc tm hp k c = evOp E tm hp (fun v hp' => k v hp' (fpOf tm hp c).1 (fpOf tm hp c).2) c := by
  cases c <;> first | (simp [COp.isCall] at hc; done) | simp only [evD1, lenK_eq, fpOf, fpN]

/-- what a path through the text is -/
structure Path (P : Program) (Gl : Nat → Option (List PV)) (cs : List COper) (tms : Nat → List AV) (Hs : Nat → List AObj) (vs : Nat → AV) (es : Nat → Chg) (Rs As : Nat → List Nat) : Prop where
  did : ∀ i c, cs[i]? = some c → Did P Gl c (tms i) (Hs i) (vs i) (es i) (Rs i) (As i)
  tm : ∀ i c, cs[i]? = some c → tms (i + 1) = putL (tms i) c.dst (vs i)
  hp : ∀ i c, cs[i]? = some c → Hs (i + 1) = (es i).app (Hs i) (Hs i).length

def consF {α : Type} (x : α) (f : Nat → α) : Nat → α
  | 0 => x
  | n + 1 => f n

def PathOut (P : Program) (Gl : Nat → Option (List PV)) (k : List AV → List AObj → Prop) (cs : List COper) (tm : List AV) (H : List AObj) (j : Nat) (acc : List Fp) : Prop :=
  bern acc = true ∧ ∃ tms Hs vs es Rs As, tms 0 = tm ∧ Hs 0 = H ∧ k (tms cs.length) (Hs cs.length) ∧ Path P Gl cs tms Hs vs es Rs As ∧
      (∀ (i : Nat) c, cs[i]? = some c → (∀ b ∈ acc, apartFp ⟨j + i, Rs i, As i, c.bef⟩ b = true) ∧ ∀ (i' : Nat) c', i' < i → cs[i']? = some c' → apartFp ⟨j + i, Rs i, As i, c.bef⟩ ⟨j + i', Rs i', As i', c'.bef⟩ = true)
theorem path_of_ev {k : List AV → List AObj → Prop} : ∀ (cs : List COper) (tm : List AV) (H : List AObj) (j : Nat) (acc : List Fp), evOpsD (EP P Gl) (dcallP P Gl) k cs tm H j acc →
    PathOut P Gl k cs tm H j acc
  | [], tm, H, j, acc, h => by
    simp only [evOpsD_nil, chk_eq] at h
    by_cases hb : bern (slim acc) = true
    · rw [if_pos hb] at h
      exact ⟨bern_slim acc hb, fun _ => tm, fun _ => H, fun _ => .any, fun _ => ⟨[], none⟩, fun _ => [], fun _ => [], rfl, rfl, h, ⟨fun i c h => by simp at h, fun i c h => by simp at h, fun i c h => by simp at h⟩, fun i c h => by simp at h⟩
    · rw [if_neg hb] at h; exact h.elim
  | c :: cs, tm, H, j, acc, h => by
    have glue : ∀ (v : AV) (e : Chg) (R A : List Nat) (acc' : List Fp), Did P Gl c tm H v e R A → evOpsD (EP P Gl) (dcallP P Gl) k cs (putL tm c.dst v) (e.app H H.length) (j + 1) acc' →
        (bern acc' = true → bern acc = true ∧ (∀ b ∈ acc, apartFp ⟨j, R, A, c.bef⟩ b = true)) → (∀ b ∈ acc, b ∈ acc') → (⟨j, R, A, c.bef⟩ ∈ acc' ∨ (R = [] ∧ A = [])) →
        PathOut P Gl k (c :: cs) tm H j acc := by
      intro v e R A acc' hd hev hb hsub hmem
      obtain ⟨q1, tms, Hs, vs, es, Rs, As, q2, q3, q4, q5, q6⟩ := path_of_ev cs _ _ _ _ hev
      obtain ⟨b1, b2⟩ := hb q1
      refine ⟨b1, consF tm tms, consF H Hs, consF v vs, consF e es, consF R Rs, consF A As, rfl, rfl, q4, ⟨?_, ?_, ?_⟩, ?_⟩
      · intro i c1 hc
        cases i with
        | zero => simp at hc; subst hc; exact hd
        | succ i => exact q5.did i c1 (by simpa using hc)
      · intro i c1 hc
        cases i with
        | zero => simp at hc; subst hc; exact q2
        | succ i => exact q5.tm i c1 (by simpa using hc)
      · intro i c1 hc
        cases i with
        | zero => simp at hc; subst hc; exact q3
        | succ i => exact q5.hp i c1 (by simpa using hc)
      · intro i c1 hc
        cases i with
        | zero => simp at hc; subst hc; exact ⟨b2, fun i' c' h => by omega⟩
        | succ i =>
          obtain ⟨k1, k2⟩ := q6 i c1 (by simpa using hc)
          have ej : j + (i + 1) = j + 1 + i := by omega
          rw [ej]
          refine ⟨fun b hb' => k1 b (hsub b hb'), fun i' c' hi' hc' => ?_⟩
          cases i' with
          | zero =>
            simp at hc'; subst hc'
            rcases hmem with hm | ⟨rfl, rfl⟩
            · exact k1 _ hm
            · exact apart_nil _ _ _
          | succ i' =>
            have := k2 i' c' (by omega) (by simpa using hc')
            have ej' : j + (i' + 1) = j + 1 + i' := by omega
            rw [ej']; exact this
    have doRun : wantedA c tm → evD1 (EP P Gl) (dcallP P Gl) tm H (fun v hp rd af => put tm c.dst v fun tm => evOpsD (EP P Gl) (dcallP P Gl) k cs tm hp (j + 1) (⟨j, rd, af, c.bef⟩ :: acc)) c.op → PathOut P Gl k (c :: cs) tm H j acc := by
      intro hw hr
      by_cases hc : c.op.isCall = false
      · have hr' := hr
        rw [evD1_step _ _ _ _ _ _ hc] at hr'
        rw [evOp_step _ _ _ _ _ hc] at hr'
        rw [show (EP P Gl).glob = Gl from rfl] at hr'
        cases hs : step Gl tm H H.length c.op with
        | none => rw [hs] at hr'; exact hr'.elim
        | some ve =>
          obtain ⟨v, e⟩ := ve
          rw [hs] at hr'
          simp only [putK_eq] at hr'
          refine glue v e.chg _ _ _ (.run v e hw hc hs) (by rw [Eff.chg_app]; exact hr') (fun hb => ?_) (fun b hb => .tail _ hb) (.inl (.head _))
          obtain ⟨b1, b2⟩ := bern_cons hb
          exact ⟨b2, b1⟩
      · have hc' : c.op.isCall = true := by simpa using hc
        have key : ∃ (R : List Nat) (sets : List (Nat × AObj)) (r : AV), (∀ s ∈ sets, s.1 < H.length) ∧
            (∀ tm' H2, (∀ t ∈ c.op.slots, tm'.getD t .any = tm.getD t .any) → (∀ a ∈ R, ∀ o, H[a]? = some o → H2[a]? = some o) → evOp (EP P Gl) tm' H2 (fun v' H' => v' = r ∧ H' = setsL sets H2) c.op) ∧
            evOpsD (EP P Gl) (dcallP P Gl) k cs (putL tm c.dst r) (setsL sets H) (j + 1) (⟨j, R, sets.map (·.1), c.bef⟩ :: acc) := by
          revert hr hc'
          generalize c.op = op
          intro hr hc'
          cases op <;> try (simp [COp.isCall] at hc'; done)
          case call f args =>
            simp only [evD1, opdsK_eq] at hr
            obtain ⟨R, sets, r, h1, h2, h3⟩ := hr
            rw [putK_eq] at h3
            refine ⟨R, sets, r, h1, fun tm' H2 ht hR => ?_, h3⟩
            simp only [evOp, op_call, opdsK_eq]
            rw [evOpds_congr (tm := tm) (tm' := tm') (xs := args) (fun t h => ht t h)]
            exact h2 H2 hR
          case callv f args =>
            simp only [evD1, opdsK_eq, opdK_eq, appK_eq, mapK_eq] at hr
            have e1 : ∀ tm' : List AV, (∀ t ∈ (COp.callv f args).slots, tm'.getD t .any = tm.getD t .any) → evOpd tm' f = evOpd tm f ∧ args.map (evOpd tm') = args.map (evOpd tm) := fun tm' ht =>
              ⟨evOpd_congr fun t h => ht t (by simp only [COp.slots, List.mem_append]; exact .inl h), evOpds_congr fun t h => ht t (by simp only [COp.slots, List.mem_append]; exact .inr h)⟩
            split at hr
            · rename_i hv
              obtain ⟨R, sets, r, h1, h2, h3⟩ := hr
              rw [putK_eq] at h3
              refine ⟨R, sets, r, h1, fun tm' H2 ht hR => ?_, h3⟩
              obtain ⟨e2, e3⟩ := e1 tm' ht
              simp only [evOp, op_callv, opdsK_eq, opdK_eq, appK_eq, mapK_eq, e2, e3, hv]
              exact h2 H2 hR
            · rename_i hv
              obtain ⟨R, sets, r, h1, h2, h3⟩ := hr
              rw [putK_eq] at h3
              refine ⟨R, sets, r, h1, fun tm' H2 ht hR => ?_, h3⟩
              obtain ⟨e2, e3⟩ := e1 tm' ht
              simp only [evOp, op_callv, opdsK_eq, opdK_eq, appK_eq, mapK_eq, e2, e3, hv]
              exact h2 H2 hR
            · exact hr.elim
        obtain ⟨R, sets, r, h1, h2, h3⟩ := key
        refine glue r ⟨sets, none⟩ R (sets.map (·.1)) _ (.call r sets R hw hc' h1 h2) h3 (fun hb => ?_) (fun b hb => .tail _ hb) (.inl (.head _))
        obtain ⟨b1, b2⟩ := bern_cons hb
        exact ⟨b2, b1⟩
    have doSkip : Did P Gl c tm H undefA ⟨[], none⟩ [] [] → (put tm c.dst undefA fun tm => evOpsD (EP P Gl) (dcallP P Gl) k cs tm H (j + 1) acc) → PathOut P Gl k (c :: cs) tm H j acc := fun hd hev => by
      rw [putK_eq] at hev
      exact glue undefA ⟨[], none⟩ [] [] acc hd hev (fun hb => ⟨hb, fun b _ => apart_nil' _ _ _⟩) (fun b hb => hb) (.inr ⟨rfl, rfl⟩)
    simp only [evOpsD_cons] at h
    cases hg : c.guard with
    | none => rw [hg] at h; exact doRun (by simp [wantedA, hg]) h
    | some tw =>
      obtain ⟨t, want⟩ := tw
      rw [hg] at h
      simp only [nthK_eq] at h
      split at h
      · rename_i b hv
        simp only [updK_eq] at h
        rw [ifB_eq] at h
        have hset : ∀ b', b = b' → tm.set t (.p (.bool b')) = tm := fun b' e => set_self (by rw [← e]; exact hv) (by simp)
        cases b
        · simp only [Bool.false_eq_true, if_false] at h
          rw [hset false rfl, ifB_eq] at h
          cases want
          · simp only [Bool.false_eq_true, if_false] at h
            exact doRun (by simp only [wantedA, hg]; exact hv) h
          · simp only [if_true] at h
            exact doSkip (.skip t true false hg hv (by simp)) h
        · simp only [if_true] at h
          rw [hset true rfl, ifB_eq] at h
          cases want
          · simp only [Bool.false_eq_true, if_false] at h
            exact doSkip (.skip t false true hg hv (by simp)) h
          · simp only [if_true] at h
            exact doRun (by simp only [wantedA, hg]; exact hv) h
      · rename_i hv
        exact doSkip (.skipU t want hg hv) h
      · exact h.elim
end
end
end Go.Av
