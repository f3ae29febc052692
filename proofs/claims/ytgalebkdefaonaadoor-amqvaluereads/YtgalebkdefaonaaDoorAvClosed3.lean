/- An abstract machine for the modelled code, and what its runs say of real calls. Part of a proof of a given statement: for every input the law returns true and the arguments read as before; no condition beyond the given row. -/
import Derived.Test.YtgalebkdefaonaaDoorAvClosed2
namespace Go.Av
noncomputable section

/-- what a closed evaluation knows: the texts, and contracts -/
structure Know where
  tab : Nat → Option CFunc
  known : Nat → List PV → Option PV

/-- a call on pure arguments -/
def callC (kn : Know) (E : Env (Option PV)) (f : Nat) (args : List PV) : Option PV := match kn.known f args with
  | some r => some r
  | none => match kn.tab f with
    | some cf => mapK .p args fun args => evFunc E cf args [] (fun v H => freeze H v)
    | none => none

def envC (kn : Know) (Gl : Nat → Option (List PV)) (N : Nat) : Nat → (β : Type) → Env (Option β)
  | 0, _ => { fail := none, glob := Gl, call := fun _ _ _ _ => none, loop := fun _ _ _ _ => none, join := fun _ _ _ _ _ => none, draw := fun _ _ _ _ => none }
  | d + 1, β => Env.mk none Gl
      (fun f args H k => match (AV.toPVs args).bind (kn.known f) with
        | some r => k (.p r) H
        | none => match kn.tab f with
          | some cf => evFunc (envC kn Gl N d β) cf args H k
          | none => none)
      (fun b tm H k => loopF (envC kn Gl N d β) b N tm H k)
      (fun a b tm H k => ev (envC kn Gl N d β) a tm H fun e tm H => match e with
        | .normal => ev (envC kn Gl N d β) b tm H k
        | .exit i => k (.exit i) tm H
        | .ret => k .ret tm H)
      (fun ops tm H k => evOpsD (envC kn Gl N d β) (fun f args H k => match (AV.toPVs args).bind (callC kn (envC kn Gl N d PV) f) with
        | some r => k (.p r) H [] []
        | none => none) k ops tm H 0 [])
section
variable {P : Program} {Gl : Nat → Option (List PV)} {kn : Know}

structure KnowOk (P : Program) (Gl : Nat → Option (List PV)) (kn : Know) : Prop where
  tab : ∀ f cf, kn.tab f = some cf → chkFunc P f cf = true
  known : ∀ f args r, kn.known f args = some r → Pure P Gl f args r

theorem callC_sound (hkn : KnowOk P Gl kn) {E : Env (Option PV)} {f : Nat} {args : List PV} {r : PV} (hE : Hom E (EP P Gl) r) (h : callC kn E f args = some r) : Pure P Gl f args r := by
  unfold callC at h
  cases hk : kn.known f args with
  | some x => rw [hk] at h; cases h; exact hkn.known f args _ hk
  | none =>
    simp only [hk] at h
    cases ht : kn.tab f with
    | none => simp only [ht] at h; cases h
    | some cf =>
      simp only [ht, mapK_eq] at h
      exact pure_of_ev (hkn.tab f cf ht) (evFunc_hom hE (fun v H hv => freeze_spec v r hv) h)

section
variable {β : Type} {EO : Env (Option β)} {E : Env Prop} {r : β}
theorem loopF_hom (h : Hom EO E r) {b : CC} {kO : CExit → List AV → List AObj → Option β} {kP : CExit → List AV → List AObj → Prop} (hk : ∀ e v H', kO e v H' = some r → kP e v H') : ∀ (n : Nat) (tm : List AV) (H : List AObj), loopF EO b n tm H kO = some r → loopF E b n tm H kP
  | 0, tm, H, he => by simp only [loopF, h.fail] at he; cases he
  | n + 1, tm, H, he => by
    refine ev_hom h b tm H _ _ ?_ he
    intro e v H' hv
    cases e with
    | normal => exact loopF_hom h hk n v H' hv
    | exit i => exact hk _ _ _ hv
    | ret => exact hk _ _ _ hv

theorem evOpsD_hom (h : Hom EO E r) {dO : Nat → List AV → List AObj → (AV → List AObj → List Nat → List Nat → Option β) → Option β} {dP : Nat → List AV → List AObj → (AV → List AObj → List Nat → List Nat → Prop) → Prop}
    (hd : ∀ f a H (kO : AV → List AObj → List Nat → List Nat → Option β) (kP : AV → List AObj → List Nat → List Nat → Prop), (∀ v H' R A, kO v H' R A = some r → kP v H' R A) → dO f a H kO = some r → dP f a H kP)
    {kO : List AV → List AObj → Option β} {kP : List AV → List AObj → Prop} (hk : ∀ v H', kO v H' = some r → kP v H') : ∀ (cs : List COper) (tm : List AV) (H : List AObj) (j : Nat) (acc : List Fp), evOpsD EO dO kO cs tm H j acc = some r → evOpsD E dP kP cs tm H j acc
  | [], tm, H, j, acc, he => by
    simp only [evOpsD_nil, chk_eq] at he ⊢
    split at he
    · rename_i hb; rw [if_pos hb]; exact hk _ _ he
    · rw [h.fail] at he; cases he
  | c :: cs, tm, H, j, acc, he => by
    have run : ∀ tm, evD1 EO dO tm H (fun v hp rd af => put tm c.dst v fun tm => evOpsD EO dO kO cs tm hp (j + 1) (⟨j, rd, af, c.bef⟩ :: acc)) c.op = some r →
        evD1 E dP tm H (fun v hp rd af => put tm c.dst v fun tm => evOpsD E dP kP cs tm hp (j + 1) (⟨j, rd, af, c.bef⟩ :: acc)) c.op := by
      intro tm he
      have kk : ∀ v H' R A, (put tm c.dst v fun tm => evOpsD EO dO kO cs tm H' (j + 1) (⟨j, R, A, c.bef⟩ :: acc)) = some r → (put tm c.dst v fun tm => evOpsD E dP kP cs tm H' (j + 1) (⟨j, R, A, c.bef⟩ :: acc)) := fun v H' R A hv => by
        rw [putK_eq] at hv ⊢; exact evOpsD_hom h hd hk cs _ _ _ _ hv
      by_cases hc : c.op.isCall = false
      · rw [evD1_step _ _ _ _ _ _ hc] at he ⊢
        exact evOp_hom h (fun v H' hv => kk v H' _ _ hv) he
      · revert he hc
        generalize c.op = op
        intro he hc
        cases op <;> try (simp [COp.isCall] at hc; done)
        case call f args =>
          simp only [evD1, opdsK_eq] at he ⊢
          exact hd _ _ _ _ _ kk he
        case callv f args =>
          simp only [evD1, opdsK_eq, opdK_eq, appK_eq, mapK_eq] at he ⊢
          split at he
          · exact hd _ _ _ _ _ kk he
          · exact hd _ _ _ _ _ kk he
          · rw [h.fail] at he; cases he
    have skip : ∀ tm, (put tm c.dst undefA fun tm => evOpsD EO dO kO cs tm H (j + 1) acc) = some r → (put tm c.dst undefA fun tm => evOpsD E dP kP cs tm H (j + 1) acc) := fun tm hv => by
      rw [putK_eq] at hv ⊢; exact evOpsD_hom h hd hk cs _ _ _ _ hv
    simp only [evOpsD_cons] at he ⊢
    cases hg : c.guard with
    | none => rw [hg] at he; exact run tm he
    | some tw =>
      obtain ⟨t, want⟩ := tw
      rw [hg] at he
      simp only [nthK_eq, updK_eq, ifB_eq] at he ⊢
      split at he
      · rename_i b hv
        cases b <;> cases want <;> simp only [if_true, if_false, Bool.false_eq_true] at he ⊢ <;> first | exact run _ he | exact skip _ he
      · exact skip _ he
      · rw [h.fail] at he; cases he
end

theorem envC_hom (hkn : KnowOk P Gl kn) (N : Nat) : ∀ (d : Nat) (β : Type) (r : β), Hom (envC kn Gl N d β) (EP P Gl) r
  | 0, β, r => ⟨rfl, rfl, fun f a H kO kP hk he => (by simp only [envC] at he; cases he), fun b tm H kO kP hk he => (by simp only [envC] at he; cases he), fun a b tm H kO kP hk he => (by simp only [envC] at he; cases he), fun b tm H kO kP hk he => (by simp only [envC] at he; cases he)⟩
  | d + 1, β, r => by
    have ih := envC_hom hkn N d
    refine ⟨rfl, rfl, fun f a H kO kP hk he => ?_, fun b tm H kO kP hk he => ?_, fun a b tm H kO kP hk he => ?_, fun ops tm H kO kP hk he => ?_⟩
    · simp only [envC] at he
      cases hb : (AV.toPVs a).bind (kn.known f) with
      | some x =>
        simp only [hb] at he
        obtain ⟨pa, h1, h2⟩ := Option.bind_eq_some_iff.1 hb
        exact call_pure (hkn.known f pa x h2) (toPVs_frz a pa h1) (hk _ _ he)
      | none =>
        simp only [hb] at he
        cases ht : kn.tab f with
        | none => simp only [ht] at he; cases he
        | some cf =>
          simp only [ht] at he
          exact inline (hkn.tab f cf ht) (evFunc_hom (ih β r) hk he)
    · simp only [envC] at he
      exact loop_unroll N (loopF_hom (ih β r) hk N tm H he)
    · simp only [envC] at he
      refine seq_rule (ev_hom (ih β r) a tm H _ _ (fun e v H' hv => ?_) he)
      cases e with
      | normal => exact ev_hom (ih β r) b v H' kO kP hk hv
      | exit i => exact hk _ _ _ hv
      | ret => exact hk _ _ _ hv
    · simp only [envC] at he
      refine draw_rule (evOpsD_hom (ih β r) (fun f a H kO kP hk he => ?_) hk ops tm H 0 [] he)
      cases hb : (AV.toPVs a).bind (callC kn (envC kn Gl N d PV) f) with
      | none => simp only [hb] at he; cases he
      | some x =>
        simp only [hb] at he
        obtain ⟨pa, h1, h2⟩ := Option.bind_eq_some_iff.1 hb
        have hp := callC_sound hkn (ih PV x) h2
        exact ⟨[], [], .p x, fun s h => (by cases h), fun H2 _ => call_pure hp (toPVs_frz a pa h1) ⟨rfl, rfl⟩, hk _ _ _ _ he⟩

/-- a closed call, evaluated -/
theorem pure_closed (hkn : KnowOk P Gl kn) {N d : Nat} {f : Nat} {args : List PV} {r : PV} (h : callC kn (envC kn Gl N d PV) f args = some r) : Pure P Gl f args r :=
  callC_sound hkn (envC_hom hkn N d PV r) h
end
end
end Go.Av
