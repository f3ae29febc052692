/- An abstract machine for the modelled code, and what its runs say of real calls. Part of a proof of a given statement: for every input the law returns true and the arguments read as before; no condition beyond the given row. -/
import Derived.Test.YtkemhhfbpniioaaGreatDoorAvClosed2
namespace Go.Av
noncomputable section

structure Know where
 tab : Nat → Option CFunc
 known : Nat → List PV → Option PV

section
variable {P : Program} {Gl : Nat → Option (List PV)} {kn : Know}

structure KnowOk (P : Program) (Gl : Nat → Option (List PV)) (kn : Know) : Prop where
 tab : ∀ f cf, kn.tab f = some cf → Qc P f cf = true
 known : ∀ f args r, kn.known f args = some r → Zq P Gl f args r

section
variable {β : Type} {EO : Env (Option β)} {E : Env Prop} {r : β}
theorem Qf2 (h : Hom EO E r) {b : CC} {kO : CExit → List AV → List AObj → Option β} {kP : CExit → List AV → List AObj → Prop} (hk : ∀ e v H', kO e v H' = some r → kP e v H') : ∀ (n : Nat) (tm : List AV) (H : List AObj), Qg3 EO b n tm H kO = some r → Qg3 E b n tm H kP
 | 0, tm, H, he => by simp only [Qg3, h.fail] at he; cases he
 | n + 1, tm, H, he => by
  refine Q5e h b tm H _ _ ?_ he
  intro e v H' hv
  cases e with
  | normal => exact Qf2 h hk n v H' hv
  | exit i => exact hk _ _ _ hv
  | ret => exact hk _ _ _ hv

theorem Q42 (h : Hom EO E r) {dO : Nat → List AV → List AObj → (AV → List AObj → List Nat → List Nat → Option β) → Option β} {dP : Nat → List AV → List AObj → (AV → List AObj → List Nat → List Nat → Prop) → Prop}
  (hd : ∀ f a H (kO : AV → List AObj → List Nat → List Nat → Option β) (kP : AV → List AObj → List Nat → List Nat → Prop), (∀ v H' R A, kO v H' R A = some r → kP v H' R A) → dO f a H kO = some r → dP f a H kP)
  {kO : List AV → List AObj → Option β} {kP : List AV → List AObj → Prop} (hk : ∀ v H', kO v H' = some r → kP v H') : ∀ (cs : List COper) (tm : List AV) (H : List AObj) (j : Nat) (acc : List Fp), Jc EO dO kO cs tm H j acc = some r → Jc E dP kP cs tm H j acc
 | [], tm, H, j, acc, he => by
  simp only [Qb2, Uc] at he ⊢
  split at he
  ·rename_i hb; rw [if_pos hb]; exact hk _ _ he
  ·rw [h.fail] at he; cases he
 | c :: cs, tm, H, j, acc, he => by
  have run : ∀ tm, Qiv EO dO tm H (fun v hp rd af => put tm c.dst v fun tm => Jc EO dO kO cs tm hp (j + 1) (⟨j, rd, af, c.bef⟩ :: acc)) c.op = some r →
    Qiv E dP tm H (fun v hp rd af => put tm c.dst v fun tm => Jc E dP kP cs tm hp (j + 1) (⟨j, rd, af, c.bef⟩ :: acc)) c.op := by
   intro tm he
   have kk : ∀ v H' R A, (put tm c.dst v fun tm => Jc EO dO kO cs tm H' (j + 1) (⟨j, R, A, c.bef⟩ :: acc)) = some r → (put tm c.dst v fun tm => Jc E dP kP cs tm H' (j + 1) (⟨j, R, A, c.bef⟩ :: acc)) := fun v H' R A hv => by
    rw [Gk] at hv ⊢; exact Q42 h hd hk cs _ _ _ _ hv
   by_cases hc : c.op.isCall = false
   ·rw [Qdf _ _ _ _ _ _ hc] at he ⊢
    exact Qhz h (fun v H' hv => kk v H' _ _ hv) he
   ·revert he hc
    generalize c.op = op
    intro he hc
    cases op <;> try (simp [COp.isCall] at hc; done)
    case call f args =>
     simp only [Qiv, J2] at he ⊢
     exact hd _ _ _ _ _ kk he
    case callv f args =>
     simp only [Qiv, J2, Zj, Jv, Vf] at he ⊢
     split at he
     ·exact hd _ _ _ _ _ kk he
     ·exact hd _ _ _ _ _ kk he
     ·rw [h.fail] at he; cases he
  have skip : ∀ tm, (put tm c.dst Vg fun tm => Jc EO dO kO cs tm H (j + 1) acc) = some r → (put tm c.dst Vg fun tm => Jc E dP kP cs tm H (j + 1) acc) := fun tm hv => by
   rw [Gk] at hv ⊢; exact Q42 h hd hk cs _ _ _ _ hv
  simp only [Q9i] at he ⊢
  cases hg : c.guard with
  | none => rw [hg] at he; exact run tm he
  | some tw =>
   obtain ⟨t, want⟩ := tw
   rw [hg] at he
   simp only [Q0q, Q4p, Gz] at he ⊢
   split at he
   ·rename_i b hv
    cases b <;> cases want <;> simp only [if_true, if_false, Bool.false_eq_true] at he ⊢ <;> first | exact run _ he | exact skip _ he
   ·exact skip _ he
   ·rw [h.fail] at he; cases he
end

end
end
end Go.Av
