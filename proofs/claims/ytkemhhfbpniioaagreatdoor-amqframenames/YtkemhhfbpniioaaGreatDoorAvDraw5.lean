/- An abstract machine for the modelled code, and what its runs say of real calls. Part of a proof of a given statement: for every input the law returns true and the arguments read as before; no condition beyond the given row. -/
import Derived.Test.YtkemhhfbpniioaaGreatDoorAvDraw4
namespace Go.Av
noncomputable section
section
variable {P : Program} {Gl : Nat → Option (List PV)}
variable {ops : Array Oper} {cs : List COper} {tms : Nat → List AV} {Hs : Nat → List AObj} {vs : Nat → AV} {es : Nat → Chg} {Rs As : Nat → List Nat}

theorem step_na {tm : List AV} {H : List AObj} {na na' : Nat} {c : COp} {v : AV} {e : Eff} (hs : step Gl tm H na c = some (v, e)) (he : e.new = none) : step Gl tm H na' c = some (v, e) := by
  cases c <;> try exact hs
  case alloc z => cases hs; cases he
  case makeMap => cases hs; cases he
  case box x =>
    simp only [step] at hs
    cases hc : (evOpd tm x).cells? with
    | none => simp only [hc, Option.map_none] at hs; cases hs
    | some cs => simp only [hc, Option.map_some] at hs; cases hs; cases he
  case buildSlice z len esz ps =>
    simp only [step] at hs
    cases hc : sFill tm ((List.replicate len z).flatten.map .p) ps with
    | none => simp only [hc, Option.map_none] at hs; cases hs
    | some cs => simp only [hc, Option.map_some] at hs; cases hs; cases he
  case bytesOf x =>
    simp only [step] at hs
    split at hs
    · cases hs; cases he
    · cases hs
  case makeSlice z b l c' =>
    simp only [step] at hs
    split at hs
    · split at hs
      · cases hs; cases he
      · cases hs
    · cases hs
  case append esz bytes s x =>
    simp only [step] at hs ⊢
    have add : ∀ new n, sAdd H na esz bytes (evOpd tm s) new n = some (v, e) → sAdd H na' esz bytes (evOpd tm s) new n = some (v, e) := by
      intro new n h
      unfold sAdd at h ⊢
      split
      · rename_i hn; rw [if_pos hn] at h; exact h
      · rename_i hn
        rw [if_neg hn] at h
        split at h
        · split at h
          · cases h; cases he
          · cases h
        · split at h
          · split at h
            · cases h; cases he
            · cases h
          · cases h
        · cases h
    unfold sApp at hs ⊢
    split at hs
    · split at hs
      · split at hs
        · rename_i es b off n _ _ cs _ _
          rename_i h1 h2
          first
            | (obtain ⟨new, q1, q2⟩ := Option.bind_eq_some_iff.1 hs
               have q3 := add _ _ q2
               simp only [*, if_true, Option.bind_some])
        · cases hs
      · cases hs
    · split at hs
      · rename_i h; rw [if_pos h]; exact add _ _ hs
      · cases hs
    · exact add _ _ hs
    · split at hs
      · rename_i h; rw [if_pos h]; exact add _ _ hs
      · cases hs
    · cases hs

theorem wanted_bool {θ : Th} {S : Nat → Prop} {w : World} {tm : List AV} {a : Act} (hT : TmOk θ S w tm a) {o : Oper} {c : COper} (hk : chkGuard ops o.guard c.guard = true) {t : Nat} {want b : Bool}
    (hg : c.guard = some (t, want)) (hv : tm.getD t .any = .p (.bool b)) : Region.wanted o (yielded ops a.tmps) = (b == want) := by
  cases hgo : o.guard with
  | none => rw [hgo, hg] at hk; simp [chkGuard] at hk
  | some jb =>
    obtain ⟨j, b'⟩ := jb
    rw [hgo, hg] at hk
    simp only [chkGuard, Bool.and_eq_true, beq_iff_eq] at hk
    obtain ⟨rfl, hj⟩ := hk
    obtain ⟨cv, e1, e2, e3⟩ := tmps_get hT hv (by simp)
    have := relBool e3
    subst this
    have hy' : yielded ops a.tmps j = some b := by unfold yielded; rw [hj]; simp only [Option.bind_some, e1]
    simp only [Region.wanted, hgo, hy']
    cases b <;> cases b' <;> rfl
theorem wanted_undef {θ : Th} {S : Nat → Prop} {w : World} {tm : List AV} {a : Act} (hT : TmOk θ S w tm a) {o : Oper} {c : COper} (hk : chkGuard ops o.guard c.guard = true) {t : Nat} {want : Bool}
    (hg : c.guard = some (t, want)) (hv : tm.getD t .any = .p (.tuple [])) : Region.wanted o (yielded ops a.tmps) = false := by
  cases hgo : o.guard with
  | none => rw [hgo, hg] at hk; simp [chkGuard] at hk
  | some jb =>
    obtain ⟨j, b'⟩ := jb
    rw [hgo, hg] at hk
    simp only [chkGuard, Bool.and_eq_true, beq_iff_eq] at hk
    obtain ⟨rfl, hj⟩ := hk
    obtain ⟨cv, e1, e2, e3⟩ := tmps_get hT hv (by simp)
    have hcv : cv = .tuple #[] := by
      cases e3 with
      | p _ _ hp =>
        cases hp with
        | tuple _ C hn hv =>
          have : C = #[] := by apply Array.eq_empty_of_size_eq_zero; simpa using hn
          rw [this]
    have hy' : yielded ops a.tmps j = none := by unfold yielded; rw [hj]; simp only [Option.bind_some, e1, hcv]
    simp [Region.wanted, hgo, hy']

theorem Plan.ord (p : Plan P Gl ops cs tms Hs vs es Rs As) {L : Nat → Prop} (clo : ∀ (j : Nat) c b, cs[j]? = some c → L j → c.bef.testBit b = true → L b) {j : Nat} {c : COper} (hc : cs[j]? = some c)
    (hn : ¬ L j) (hb : ∀ b, c.bef.testBit b = true → L b) {x : Nat} (hx : x ∈ Rs j ∨ Aff Hs es j x) : ∀ (i : Nat), i < cs.length → Aff Hs es i x → (i < j ↔ L i) := by
  intro i hi ha
  have hd := List.getElem?_eq_getElem hi
  obtain ⟨c1, c2⟩ := p.conflict hd hc ha hx
  by_cases h : i < j
  · exact ⟨fun _ => hb i (c1 h), fun _ => h⟩
  · by_cases he : i = j
    · subst he; exact ⟨fun h' => absurd h' h, fun h' => absurd h' hn⟩
    · have hlt : j < i := by omega
      exact ⟨fun h' => absurd h' h, fun h' => absurd (clo i _ j hd h' (c2 hlt)) hn⟩

/-- an operation has run -/
theorem InvD.after (p : Plan P Gl ops cs tms Hs vs es Rs As) {θ0 : Th} {w0 : World} {L : Nat → Prop} {θ : Th} {tm : List AV} {H : List AObj} {a : Act} {w : World} (inv : InvD cs tms Hs es θ0 w0 L θ tm H a w)
    {j : Nat} {c : COper} (hc : cs[j]? = some c) (hn : ¬ L j) (hb : ∀ b, c.bef.testBit b = true → L b) {θ' : Th} {w' : World} {cv : Value}
    (h1 : RelV θ' (Free θ' ((es j).app H (Hs j).length)) w' (vs j) cv) (h2 : Hp θ' ((es j).app H (Hs j).length) w') (h3 : Evo θ H w θ' ((es j).app H (Hs j).length) w')
    (h4 : ∀ b, b < H.length → (b ≠ (Hs j).length ∨ (es j).new = none) → θ' b = θ b) :
    InvD cs tms Hs es θ0 w0 (fun i => L i ∨ i = j) θ' (putL tm c.dst (vs j)) ((es j).app H (Hs j).length) (a.put c.dst cv) w' := by
  have hjl : j < cs.length := (List.getElem?_eq_some_iff.1 hc).1
  have hsets := (p.did j c hc).aff.1
  have hN1 : (Hs (j + 1)).length ≤ (Hs cs.length).length := p.len' (by omega) (Nat.le_refl _)
  have hN1' := hN1
  rw [p.hp j c hc] at hN1'
  have hN0 : (Hs j).length ≤ (Hs cs.length).length := p.len' (by omega) (Nat.le_refl _)
  have newlt : ∀ i, i < cs.length → (es i).new.isSome = true → (Hs i).length < (Hs (i + 1)).length := fun i hi h => p.aff_lt hi (.inr ⟨h, rfl⟩)
  refine ⟨(inv.hT.mono h3).put c.dst h1, h2, inv.evo.trans h3, ?_, ?_, ?_, ?_, ?_, ?_, ?_⟩
  · intro b hb'
    have h0 : (Hs 0).length ≤ (Hs j).length := p.len' (Nat.zero_le _) (by omega)
    rw [h4 b (by rw [inv.len]; omega) (.inl (by omega))]
    exact inv.old b hb'
  · have hle : (es j).app H (Hs j).length = (es j).app H (Hs j).length := rfl
    unfold Chg.app
    split
    · rename_i o ho
      unfold plc
      have := newlt j hjl (by rw [ho]; rfl)
      rw [if_neg (by rw [setsL_len, inv.len]; omega)]
      rw [List.length_set, setsL_len]; exact inv.len
    · rw [setsL_len]; exact inv.len
  · rw [putL_len]; exact inv.tl
  · intro j' c' b hc' hL hbit
    rcases hL with hL | rfl
    · exact .inl (inv.clo j' c' b hc' hL hbit)
    · rw [hc] at hc'; cases hc'; exact .inl (hb b hbit)
  · intro t j' hj' hcond
    by_cases hd : c.dst = some t
    · have hlt : j < j' := (hcond j c hc hd).2 (.inr rfl)
      have e1 := p.tsame (i := j + 1) (t := t) (j' - (j + 1)) (by omega) (fun i d h1 h2 hd' => (p.slot j c t hc hd i d hd' (by omega)).1)
      rw [show j + 1 + (j' - (j + 1)) = j' by omega] at e1
      rw [e1, p.tm j c hc]
      unfold putL
      rw [hd]
      simp only []
      rw [List.getElem?_set, List.getElem?_set, if_pos rfl, if_pos rfl]
      have : tm.length = (tms j).length := by rw [inv.tl, p.tlen j (by omega)]
      rw [this]
    · have e1 : (putL tm c.dst (vs j))[t]? = tm[t]? := by
        unfold putL
        split
        · rename_i d hd'
          rw [List.getElem?_set_ne (fun e => hd (by rw [hd', e]))]
        · rfl
      rw [e1]
      refine inv.sl t j' hj' (fun i d hd' hdt => ?_)
      have hne : i ≠ j := by
        rintro rfl
        rw [hc] at hd'; cases hd'; exact hd hdt
      have := hcond i d hd' hdt
      exact ⟨fun h => (this.1 h).resolve_right hne, fun h => this.2 (.inl h)⟩
  · intro x j' hj' hcond
    by_cases ha : Aff Hs es j x
    · have hlt : j < j' := (hcond j hjl ha).2 (.inr rfl)
      have e1 := p.same (i := j + 1) (x := x) (N := (Hs cs.length).length) (Nat.le_refl _) (j' - (j + 1)) (by omega) (fun i h1 h2 hai => by
        have hil : i < cs.length := by omega
        have hL := (hcond i hil hai).1 (by omega)
        have hL' : L i := hL.resolve_right (by omega)
        have hd := List.getElem?_eq_getElem hil
        have hbit := (p.conflict hc hd ha (.inr hai)).1 (by omega)
        exact hn (inv.clo i _ j hd hL' hbit))
      rw [show j + 1 + (j' - (j + 1)) = j' by omega] at e1
      rw [e1, p.hp j c hc]
      exact Chg.app_aff hN1' hsets inv.len (inv.hp x j (by omega) (p.ord inv.clo hc hn hb (.inr ha))) ha
    · rw [Chg.app_ne (by rw [inv.len]; exact hN0) ha]
      refine inv.hp x j' hj' (fun i hi hai => ?_)
      have hne : i ≠ j := by rintro rfl; exact ha hai
      have := hcond i hi hai
      exact ⟨fun h => (this.1 h).resolve_right hne, fun h => this.2 (.inl h)⟩
  · intro j2 hj2 hn2 hnew
    have hl2 := newlt j2 hj2 hnew
    have hN2 : (Hs (j2 + 1)).length ≤ (Hs cs.length).length := p.len' (by omega) (Nat.le_refl _)
    rw [h4 _ (by rw [inv.len]; omega) ?_]
    · exact inv.un j2 hj2 (fun h => hn2 (.inl h)) hnew
    · cases hnj : (es j).new with
      | none => exact .inr rfl
      | some o =>
        refine .inl (fun e => ?_)
        have hl1 := newlt j hjl (by rw [hnj]; rfl)
        have hne : j2 ≠ j := fun e => hn2 (.inr e)
        by_cases h : j2 < j
        · have := p.len' (show j2 + 1 ≤ j by omega) (by omega); omega
        · have := p.len' (show j + 1 ≤ j2 by omega) (by omega); omega

theorem InvD.goes (p : Plan P Gl ops cs tms Hs vs es Rs As) {θ0 : Th} {w0 : World} {L : Nat → Prop} {θ : Th} {tm : List AV} {H : List AObj} {a : Act} {w : World} (inv : InvD cs tms Hs es θ0 w0 L θ tm H a w) (hG : GlobOK Gl θ H w)
    {j : Nat} {o : Oper} (hjl : j < cs.length) (ho : ops[j]? = some o) (hn : ¬ L j) (he : ∀ e ∈ o.after, Region.binds .any e = true → L e.on) {Q : Exit → Act → World → Prop} {K : Act → World → Prop}
    (hK : ∀ θ' tm' H' a' w', InvD cs tms Hs es θ0 w0 (fun i => L i ∨ i = j) θ' tm' H' a' w' → K a' w') : wpOp P ops Q j K a w := by
  have hc := List.getElem?_eq_getElem hjl
  generalize cs[j] = c at hc
  have hb : ∀ b, c.bef.testBit b = true → L b := fun b => p.bef_closed inv.clo ho hc he
  obtain ⟨o1, o2, o3⟩ := p.op j o c ho hc
  have hslots : ∀ t ∈ c.slots, tm.getD t .any = (tms j).getD t .any := by
    intro t ht
    have := inv.sl t j (by omega) (fun i d hd hdt => by
      by_cases hij : i = j
      · subst hij; exact ⟨fun h => by omega, fun h => absurd h hn⟩
      · rcases (p.slot i d t hd hdt j c hc hij).2 ht with h | h
        · exact ⟨fun _ => hb i h, fun _ => p.bef_lt j c i hc h⟩
        · have hlt := p.bef_lt i d j hd h
          exact ⟨fun h' => by omega, fun h' => absurd (inv.clo i d j hd h' h) hn⟩)
    rw [List.getD_eq_getElem?_getD, List.getD_eq_getElem?_getD, this]
  have hops : ∀ t ∈ c.op.slots, tm.getD t .any = (tms j).getD t .any := fun t ht => hslots t (by simp only [COper.slots, List.mem_append]; exact .inl ht)
  have hguard : ∀ t want, c.guard = some (t, want) → tm.getD t .any = (tms j).getD t .any := fun t want hg => hslots t (by simp [COper.slots, hg])
  have hreads : ∀ x ∈ Rs j, ∀ ob, (Hs j)[x]? = some ob → H[x]? = some ob := by
    intro x hx ob hob
    rw [inv.hp x j (by omega) (p.ord inv.clo hc hn hb (.inl hx)), pad_lt (List.getElem?_eq_some_iff.1 hob).1]
    exact hob
  have want : wantedA c (tms j) → Region.wanted o (yielded ops a.tmps) = true := by
    intro hw
    unfold wantedA at hw
    cases hg : c.guard with
    | none =>
      cases hgo : o.guard with
      | none => simp [Region.wanted, hgo]
      | some q => rw [hgo, hg] at o3; simp [chkGuard] at o3
    | some tw =>
      obtain ⟨t, want⟩ := tw
      rw [hg] at hw
      simp only [] at hw
      rw [wanted_bool inv.hT o3 hg (by rw [hguard t want hg]; exact hw)]
      simp
  have skip : Region.wanted o (yielded ops a.tmps) = false → vs j = undefA → es j = ⟨[], none⟩ → wpOp P ops Q j K a w := by
    intro hw hv hes
    unfold wpOp
    rw [ho]
    simp only [hw, Bool.false_eq_true, if_false]
    rw [o1]
    have happ : (es j).app H (Hs j).length = H := by rw [hes]; rfl
    exact hK θ _ _ _ w (inv.after p hc hn hb (by rw [hv]; exact undef_rel) (by rw [happ]; exact inv.hH) (by rw [happ]; exact .refl _ _ _) (fun _ _ _ => rfl))
  have hd := p.did j c hc
  generalize hev : vs j = v at hd
  generalize hee : es j = e at hd
  generalize hR : Rs j = R at hd hreads
  generalize hA : As j = A at hd
  cases hd with
  | skip t want b hg hv hne =>
    refine skip ?_ hev hee
    rw [wanted_bool inv.hT o3 hg (by rw [hguard t want hg]; exact hv)]
    simpa using hne
  | skipU t want hg hv =>
    refine skip ?_ hev hee
    exact wanted_undef inv.hT o3 hg (by rw [hguard t want hg]; exact hv)
  | run _ ef hw hcl hs =>
    unfold wpOp
    rw [ho]
    simp only [want hw, if_true]
    refine .inl ?_
    have hs' : step Gl tm H (Hs j).length c.op = some (v, ef) := step_local hs hops hreads
    have key : ∃ na', AlOk θ H na' ∧ step Gl tm H na' c.op = some (v, ef) ∧ ef.apply H na' = (es j).app H (Hs j).length ∧ (na' = (Hs j).length ∨ ef.new = none) := by
      rw [hee, Eff.chg_app]
      cases hnew : ef.new with
      | none => exact ⟨H.length, .inl rfl, step_na hs' hnew, by unfold Eff.apply; rw [hnew], .inr rfl⟩
      | some ob =>
        have hes : (es j).new.isSome = true := by rw [hee]; show ef.new.isSome = true; rw [hnew]; rfl
        refine ⟨(Hs j).length, .inr ⟨?_, inv.un j hjl hn hes⟩, hs', rfl, .inl rfl⟩
        have ha : Aff Hs es j (Hs j).length := .inr ⟨hes, rfl⟩
        have hlt := p.aff_lt hjl ha
        have hN1 : (Hs (j + 1)).length ≤ (Hs cs.length).length := p.len' (by omega) (Nat.le_refl _)
        rw [inv.hp _ j (by omega) (p.ord inv.clo hc hn hb (.inr ha))]
        exact pad_ge (Nat.le_refl _) (by omega)
    obtain ⟨na', k1, k2, k3, k4⟩ := key
    obtain ⟨cv, w', θ', hr, q1, q2, q3, q4, q5⟩ := step_sim inv.hT inv.hH hG k1 o2 hcl k2
    rw [k3] at q1 q2 q3
    have fin : K (a.put o.dst cv) w' := by
      rw [o1]
      refine hK θ' _ _ _ w' (inv.after p hc hn hb (by rw [hev]; exact q1) q2 q3 (fun b _ hb' => ?_))
      rw [hee] at hb'
      rcases k4 with k4 | k4
      · rcases hb' with hb' | hb'
        · exact q4 b (by omega)
        · rw [q5 hb']
      · rw [q5 k4]
    unfold Oper.wp
    rcases hr with hr | ⟨hr, rfl⟩
    · rw [hr]; exact fin
    · rw [hr]; exact fin
  | call _ sets _ hw hcl hss h =>
    unfold wpOp
    rw [ho]
    simp only [want hw, if_true]
    refine .inl ?_
    have hev' := h tm H hops hreads
    refine oper_sound inv.hT inv.hH hG o2 hev' ?_
    rintro v' cv H' θ' w' ⟨rfl, rfl⟩ r1 r2 r3
    rw [o1]
    have happ : (es j).app H (Hs j).length = setsL sets H := by rw [hee]; rfl
    exact hK θ' _ _ _ w' (inv.after p hc hn hb (by rw [hev, happ]; exact r1) (by rw [happ]; exact r2) (by rw [happ]; exact r3.toEvo) (fun b hb' _ => r3.old b hb'))
end
end
end Go.Av
