/- An abstract machine for the modelled code, and what its runs say of real calls. Part of a proof of a given statement: for every input the law returns true and the arguments read as before; no condition beyond the given row. -/
import Derived.Test.YtegedmcbfmfjeaaDoorAvClosed2
namespace Go.Av
noncomputable section

structure Know where
 tab : Nat → Option CFunc
 known : Nat → List PV → Option PV

section
variable {P : Program} {Gl : Nat → Option (List PV)} {kn : Know}

structure KnowOk (P : Program) (Gl : Nat → Option (List PV)) (kn : Know) : Prop where
 tab : ∀ f cf, kn.tab f = some cf → Q8 P f cf = true
 known : ∀ f args r, kn.known f args = some r → Y9 P Gl f args r

section
variable {β : Type} {EO : Env (Option β)} {E : Env Prop} {r : β}
theorem Qce (h : Hom EO E r) {b : CC} {kO : CExit → List AV → List AObj → Option β} {kP : CExit → List AV → List AObj → Prop} (hk : ∀ e v H', kO e v H' = some r → kP e v H') : ∀ (n : Nat) (tm : List AV) (H : List AObj), Qdw EO b n tm H kO = some r → Qdw E b n tm H kP
 | 0, tm, H, he => by simp only [Qdw, h.fail] at he; cases he
 | n + 1, tm, H, he => by
  refine Q4e h b tm H _ _ ?_ he
  intro e v H' hv
  cases e with
  | normal => exact Qce h hk n v H' hv
  | exit i => exact hk _ _ _ hv
  | ret => exact hk _ _ _ hv

theorem Q2d (h : Hom EO E r) {dO : Nat → List AV → List AObj → (AV → List AObj → List Nat → List Nat → Option β) → Option β} {dP : Nat → List AV → List AObj → (AV → List AObj → List Nat → List Nat → Prop) → Prop}
  (hd : ∀ f a H (kO : AV → List AObj → List Nat → List Nat → Option β) (kP : AV → List AObj → List Nat → List Nat → Prop), (∀ v H' R A, kO v H' R A = some r → kP v H' R A) → dO f a H kO = some r → dP f a H kP)
  {kO : List AV → List AObj → Option β} {kP : List AV → List AObj → Prop} (hk : ∀ v H', kO v H' = some r → kP v H') : ∀ (cs : List COper) (tm : List AV) (H : List AObj) (j : Nat) (acc : List Fp), Ub EO dO kO cs tm H j acc = some r → Ub E dP kP cs tm H j acc
 | [], tm, H, j, acc, he => by
  simp only [Q95, V4] at he ⊢
  split at he
  ·rename_i hb; rw [if_pos hb]; exact hk _ _ he
  ·rw [h.fail] at he; cases he
 | c :: cs, tm, H, j, acc, he => by
  have run : ∀ tm, Qh0 EO dO tm H (fun v hp rd af => put tm c.dst v fun tm => Ub EO dO kO cs tm hp (j + 1) (⟨j, rd, af, c.bef⟩ :: acc)) c.op = some r →
    Qh0 E dP tm H (fun v hp rd af => put tm c.dst v fun tm => Ub E dP kP cs tm hp (j + 1) (⟨j, rd, af, c.bef⟩ :: acc)) c.op := by
   intro tm he
   have kk : ∀ v H' R A, (put tm c.dst v fun tm => Ub EO dO kO cs tm H' (j + 1) (⟨j, R, A, c.bef⟩ :: acc)) = some r → (put tm c.dst v fun tm => Ub E dP kP cs tm H' (j + 1) (⟨j, R, A, c.bef⟩ :: acc)) := fun v H' R A hv => by
    rw [J7] at hv ⊢; exact Q2d h hd hk cs _ _ _ _ hv
   by_cases hc : c.op.isCall = false
   ·rw [Qcv _ _ _ _ _ _ hc] at he ⊢
    exact Qed h (fun v H' hv => kk v H' _ _ hv) he
   ·revert he hc
    generalize c.op = op
    intro he hc
    cases op <;> try (simp [COp.isCall] at hc; done)
    case call f args =>
     simp only [Qh0, Vx] at he ⊢
     exact hd _ _ _ _ _ kk he
    case callv f args =>
     simp only [Qh0, Vx, Z3, Ut, Wp] at he ⊢
     split at he
     ·exact hd _ _ _ _ _ kk he
     ·exact hd _ _ _ _ _ kk he
     ·rw [h.fail] at he; cases he
  have skip : ∀ tm, (put tm c.dst Wc fun tm => Ub EO dO kO cs tm H (j + 1) acc) = some r → (put tm c.dst Wc fun tm => Ub E dP kP cs tm H (j + 1) acc) := fun tm hv => by
   rw [J7] at hv ⊢; exact Q2d h hd hk cs _ _ _ _ hv
  simp only [Q7q] at he ⊢
  cases hg : c.guard with
  | none => rw [hg] at he; exact run tm he
  | some tw =>
   obtain ⟨t, want⟩ := tw
   rw [hg] at he
   simp only [Ga, Q2z, Jp] at he ⊢
   split at he
   ·rename_i b hv
    cases b <;> cases want <;> simp only [if_true, if_false, Bool.false_eq_true] at he ⊢ <;> first | exact run _ he | exact skip _ he
   ·exact skip _ he
   ·rw [h.fail] at he; cases he
end

end
end
end Go.Av
