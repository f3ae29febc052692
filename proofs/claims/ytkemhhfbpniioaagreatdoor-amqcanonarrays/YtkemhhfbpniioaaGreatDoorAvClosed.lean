/- An abstract machine for the modelled code, and what its runs say of real calls. Part of a proof of a given statement: for every input the law returns true and the arguments read as before; no condition beyond the given row. -/
import Derived.Test.YtkemhhfbpniioaaGreatDoorAvDraws
import Derived.LoopN
namespace Go.Av
noncomputable section
section
variable {P : Program} {Gl : Nat → Option (List PV)}

theorem Q6h {b : CC} {code : Code} (hk : V9 P code b = true) {θ0 : Th} {H0 : List AObj} {w0 : World} (hG0 : GlobOK Gl θ0 H0 w0) {Q : CExit → List AV → List AObj → Prop} : ∀ (n : Nat) (tm : List AV) (H : List AObj),
  Qez (EP P Gl) b n tm H Q → ∀ θ a w, EvoS θ0 H0 w0 θ H w → TmOk θ (Qs θ H) w tm a → Hp θ H w → Code.rounds P code (Qrn θ0 H0 w0 Q) n a w
 | 0, tm, H, h => h.elim
 | n + 1, tm, H, h => fun θ a w hE hT hH => by
  rw [rounds_succ]
  refine wp_mono (Q6y code b hk tm H _ h θ a w hT hH (hG0.evo hE.toEvo)) ?_
  rintro e a' w' ⟨ce, tm', H', θ', h1, h2, h3, h4, h5⟩
  cases ce <;> cases e <;> simp only [Qcx] at h1
  ·exact Q6h hk hG0 n tm' H' h2 θ' a' w' (hE.trans h5) h3 h4
  ·subst h1; exact ⟨.exit _, tm', H', θ', rfl, h2, h3, h4, hE.trans h5⟩
  ·exact ⟨.ret, tm', H', θ', trivial, h2, h3, h4, hE.trans h5⟩
theorem Qec {b : CC} (n : Nat) {tm : List AV} {H : List AObj} {Q : CExit → List AV → List AObj → Prop} (h : Qez (EP P Gl) b n tm H Q) : Q7q P Gl b tm H Q :=
 fun _ hk θ a w hT hH hG => wp_loop_rounds n (Q6h hk hG n tm H h θ a w (.refl _ _ _) hT hH)

structure Hom {β : Type} (EO : Env (Option β)) (E : Env Prop) (r : β) : Prop where
 fail : EO.fail = none
 glob : EO.glob = E.glob
 call : ∀ f a H (kO : AV → List AObj → Option β) (kP : AV → List AObj → Prop), (∀ v H', kO v H' = some r → kP v H') → EO.call f a H kO = some r → E.call f a H kP
 loop : ∀ b tm H (kO : CExit → List AV → List AObj → Option β) (kP : CExit → List AV → List AObj → Prop), (∀ e v H', kO e v H' = some r → kP e v H') → EO.loop b tm H kO = some r → E.loop b tm H kP
 join : ∀ a b tm H (kO : CExit → List AV → List AObj → Option β) (kP : CExit → List AV → List AObj → Prop), (∀ e v H', kO e v H' = some r → kP e v H') → EO.join a b tm H kO = some r → E.join a b tm H kP
 draw : ∀ ops tm H (kO : List AV → List AObj → Option β) (kP : List AV → List AObj → Prop), (∀ v H', kO v H' = some r → kP v H') → EO.draw ops tm H kO = some r → E.draw ops tm H kP

section
variable {β : Type} {EO : Env (Option β)} {E : Env Prop} {r : β}

theorem Qh1 (h : Hom EO E r) {c : COp} {tm : List AV} {H : List AObj} {kO : AV → List AObj → Option β} {kP : AV → List AObj → Prop} (hk : ∀ v H', kO v H' = some r → kP v H') (he : Uh EO tm H kO c = some r) : Uh E tm H kP c := by
 by_cases hc : c.isCall = false
 ·rw [Q8w _ _ _ _ _ hc] at he ⊢
  rw [h.glob] at he
  cases hs : Z7 E.glob tm H H.length c with
  | none => rw [hs] at he; exact absurd (show EO.fail = some r from he) (by rw [h.fail]; simp)
  | some ve => obtain ⟨v, e⟩ := ve; rw [hs] at he; exact hk _ _ he
 ·cases c <;> try (simp [COp.isCall] at hc; done)
  case call f args =>
   simp only [Uh, Qaj, Ub] at he ⊢
   exact h.call _ _ _ _ _ hk he
  case callv f args =>
   simp only [Uh, Q53, Ub, Z4, Jb, Ww] at he ⊢
   split at he
   ·exact h.call _ _ _ _ _ hk he
   ·exact h.call _ _ _ _ _ hk he
   ·rw [h.fail] at he; cases he

theorem Q4p (h : Hom EO E r) {kO : List AV → List AObj → Option β} {kP : List AV → List AObj → Prop} (hk : ∀ v H', kO v H' = some r → kP v H') : ∀ (cs : List COper) (tm : List AV) (H : List AObj), Q02 EO kO cs tm H = some r → Q02 E kP cs tm H
 | [], tm, H, he => hk _ _ he
 | c :: cs, tm, H, he => by
  have run : ∀ tm, Uh EO tm H (fun v hp => put tm c.dst v fun tm => Q02 EO kO cs tm hp) c.op = some r → Uh E tm H (fun v hp => put tm c.dst v fun tm => Q02 E kP cs tm hp) c.op := fun tm he =>
   Qh1 h (fun v H' hv => by rw [Jp] at hv ⊢; exact Q4p h hk cs _ _ hv) he
  have skip : ∀ tm, (put tm c.dst Wz fun tm => Q02 EO kO cs tm H) = some r → (put tm c.dst Wz fun tm => Q02 E kP cs tm H) := fun tm hv => by
   rw [Jp] at hv ⊢; exact Q4p h hk cs _ _ hv
  simp only [Q5i] at he ⊢
  cases hg : c.guard with
  | none => rw [hg] at he; exact run tm he
  | some tw =>
   obtain ⟨t, want⟩ := tw
   rw [hg] at he
   simp only [Gu, Q41, G5] at he ⊢
   split at he
   ·rename_i b hv
    cases b <;> cases want <;> simp only [if_true, if_false, Bool.false_eq_true] at he ⊢ <;> first | exact run _ he | exact skip _ he
   ·exact skip _ he
   ·rw [h.fail] at he; cases he

theorem Q4x (h : Hom EO E r) : ∀ (c : CC) (tm : List AV) (H : List AObj) (kO : CExit → List AV → List AObj → Option β) (kP : CExit → List AV → List AObj → Prop), (∀ e v H', kO e v H' = some r → kP e v H') → ev EO c tm H kO = some r → ev E c tm H kP
 | .skip, tm, H, kO, kP, hk, he => hk _ _ _ he
 | .exit _, tm, H, kO, kP, hk, he => hk _ _ _ he
 | .ret, tm, H, kO, kP, hk, he => hk _ _ _ he
 | .region false ops, tm, H, kO, kP, hk, he => Q4p h (fun v H' hv => hk _ _ _ hv) ops tm H he
 | .region true ops, tm, H, kO, kP, hk, he => h.draw ops tm H _ _ (fun v H' hv => hk _ _ _ hv) he
 | .seq a b, tm, H, kO, kP, hk, he => by
  refine Q4x h a tm H _ _ ?_ he
  intro e v H' hv
  cases e with
  | normal => exact Q4x h b v H' kO kP hk hv
  | exit i => exact hk _ _ _ hv
  | ret => exact hk _ _ _ hv
 | .cond c a b, tm, H, kO, kP, hk, he => by
  simp only [Qj6, Z4, G5] at he ⊢
  split at he
  ·rename_i x hv
   cases x
   ·exact Q4x h b tm H kO kP hk (by simpa using he)
   ·exact Q4x h a tm H kO kP hk (by simpa using he)
  ·rw [h.fail] at he; cases he
 | .block id b, tm, H, kO, kP, hk, he => by
  refine Q4x h b tm H _ _ ?_ he
  intro e v H' hv
  cases e with
  | normal => exact hk _ _ _ hv
  | exit i =>
   simp only [G5] at hv ⊢
   split at hv
   ·rename_i hi; rw [if_pos hi]; exact hk _ _ _ hv
   ·rename_i hi; rw [if_neg hi]; exact hk _ _ _ hv
  | ret => exact hk _ _ _ hv
 | .loop b, tm, H, kO, kP, hk, he => h.loop b tm H _ _ hk he
 | .join a b, tm, H, kO, kP, hk, he => h.join a b tm H _ _ hk he

theorem Q7o (h : Hom EO E r) {tm : List AV} {H : List AObj} : ∀ (rs : List CRes) (kO : List AV → Option β) (kP : List AV → Prop), (∀ v, kO v = some r → kP v) → Q7e EO tm H rs kO = some r → Q7e E tm H rs kP
 | [], kO, kP, hk, he => hk _ he
 | .tmp t :: rs, kO, kP, hk, he => by
  simp only [Qco, Gu] at he ⊢
  exact Q7o h rs _ _ (fun v hv => hk _ hv) he
 | .cell t n agg :: rs, kO, kP, hk, he => by
  simp only [Q9n, Gu, Q4c, Gb, Gr] at he ⊢
  rw [h.glob] at he
  cases c1 : Ud E.glob H (tm.getD t .any) with
  | none => simp only [c1, h.fail] at he; cases he
  | some cs =>
   simp only [c1] at he ⊢
   cases c2 : G0 n cs with
   | none => simp only [c2, h.fail] at he; cases he
   | some ds =>
    simp only [c2] at he ⊢
    cases c3 : sOf agg ds with
    | none => simp only [c3, h.fail] at he; cases he
    | some v =>
     simp only [c3] at he ⊢
     exact Q7o h rs _ _ (fun v hv => hk _ hv) he
theorem Qke {α : Type} (vs : List AV) (k : AV → α) : Q9x vs k = k (match vs with | [v] => v | vs => .tuple vs) := by
 match vs with
 | [] => rfl
 | [v] => rfl
 | _ :: _ :: _ => rfl
theorem Qi6 (vs : List AV) (k : AV → Prop) : Q9x vs k = k (match vs with | [v] => v | vs => .tuple vs) := by
 match vs with
 | [] => rfl
 | [v] => rfl
 | _ :: _ :: _ => rfl
theorem Q13 (h : Hom EO E r) {cf : CFunc} {args : List AV} {H : List AObj} {kO : AV → List AObj → Option β} {kP : AV → List AObj → Prop} (hk : ∀ v H', kO v H' = some r → kP v H') (he : Q0e EO cf args H kO = some r) : Q0e E cf args H kP := by
 simp only [Q0e, Qbp, Jb] at he ⊢
 refine Q4x h _ _ _ _ _ ?_ he
 intro e tm H' hv
 have fin : (Q7e EO tm H' cf.results fun vs => Q9x vs fun v => kO v H') = some r → (Q7e E tm H' cf.results fun vs => Q9x vs fun v => kP v H') := fun he =>
  Q7o h _ _ _ (fun vs hv => by rw [Qke] at hv; rw [Qi6]; exact hk _ _ hv) he
 cases e with
 | normal => exact fin hv
 | exit i => simp only [h.fail] at hv; cases hv
 | ret => exact fin hv
end
end
end
end Go.Av
