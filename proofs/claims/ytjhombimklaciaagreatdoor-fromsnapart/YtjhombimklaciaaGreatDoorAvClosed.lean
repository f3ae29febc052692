/- Part of the proof of FromsnApart: for every input the law returns true; no condition. -/
import Derived.Test.YtjhombimklaciaaGreatDoorAvDraws
import Derived.LoopN
namespace Go.Av
noncomputable section
section
variable {P : Program} {Gl : Nat → Option (List PV)}

theorem Q78 {b : CC} {code : Code} (hk : Xq P code b = true) {θ0 : Th} {H0 : List AObj} {w0 : World} (hG0 : GlobOK Gl θ0 H0 w0) {Q : CExit → List AV → List AObj → Prop} : ∀ (n : Nat) (tm : List AV) (H : List AObj),
  Qf0 (EP P Gl) b n tm H Q → ∀ θ a w, EvoS θ0 H0 w0 θ H w → TmOk θ (Qk θ H) w tm a → Hp θ H w → Code.rounds P code (Qrf θ0 H0 w0 Q) n a w
 | 0, tm, H, h => h.elim
 | n + 1, tm, H, h => fun θ a w hE hT hH => by
  rw [rounds_succ];refine wp_mono (Q7o code b hk tm H _ h θ a w hT hH (hG0.evo hE.toEvo)) ?_
  rintro e a' w' ⟨ce, tm', H', θ', h1, h2, h3, h4, h5⟩
  cases ce <;> cases e <;> simp only [Qem] at h1
  ·exact Q78 hk hG0 n tm' H' h2 θ' a' w' (hE.trans h5) h3 h4
  ·subst h1; exact ⟨.exit _, tm', H', θ', rfl, h2, h3, h4, hE.trans h5⟩
  exact ⟨.ret, tm', H', θ', trivial, h2, h3, h4, hE.trans h5⟩
theorem Qx {b : CC} (n : Nat) {tm : List AV} {H : List AObj} {Q : CExit → List AV → List AObj → Prop} (h : Qf0 (EP P Gl) b n tm H Q) : Q8b P Gl b tm H Q :=
 fun _ hk θ a w hT hH hG => wp_loop_rounds n (Q78 hk hG n tm H h θ a w (.refl _ _ _) hT hH)

structure Hom {β : Type} (EO : Env (Option β)) (E : Env Prop) (r : β) : Prop where
 fail : EO.fail = none
 glob : EO.glob = E.glob
 call : ∀ f a H (kO : AV → List AObj → Option β) (kP : AV → List AObj → Prop), (∀ v H', kO v H' = some r → kP v H') → EO.call f a H kO = some r → E.call f a H kP
 loop : ∀ b tm H (kO : CExit → List AV → List AObj → Option β) (kP : CExit → List AV → List AObj → Prop), (∀ e v H', kO e v H' = some r → kP e v H') → EO.loop b tm H kO = some r → E.loop b tm H kP
 join : ∀ a b tm H (kO : CExit → List AV → List AObj → Option β) (kP : CExit → List AV → List AObj → Prop), (∀ e v H', kO e v H' = some r → kP e v H') → EO.join a b tm H kO = some r → E.join a b tm H kP
 draw : ∀ ops tm H (kO : List AV → List AObj → Option β) (kP : List AV → List AObj → Prop), (∀ v H', kO v H' = some r → kP v H') → EO.draw ops tm H kO = some r → E.draw ops tm H kP

section
variable {β : Type} {EO : Env (Option β)} {E : Env Prop} {r : β}

theorem Qgr (h : Hom EO E r) {c : COp} {tm : List AV} {H : List AObj} {kO : AV → List AObj → Option β} {kP : AV → List AObj → Prop} (hk : ∀ v H', kO v H' = some r → kP v H') (he : V6 EO tm H kO c = some r) : V6 E tm H kP c := by
 by_cases hc : c.isCall = false
 ·rw [Q96 _ _ _ _ _ hc] at he ⊢;rw [h.glob] at he
  cases hs : Qu E.glob tm H H.length c with
  | none => rw [hs] at he; exact absurd (show EO.fail = some r from he) (by rw [h.fail]; simp)
  | some ve => obtain ⟨v, e⟩ := ve; rw [hs] at he; exact hk _ _ he
 ·cases c <;> try (simp [COp.isCall] at hc; done)
  case call f args =>
   simp only [V6, Qc4, Uk] at he ⊢;exact h.call _ _ _ _ _ hk he
  case callv f args =>
   simp only [V6, Q5v, Uk, Qo, J7, Xh] at he ⊢;split at he
   ·exact h.call _ _ _ _ _ hk he
   ·exact h.call _ _ _ _ _ hk he
   ·rw [h.fail] at he; cases he

theorem Q34 (h : Hom EO E r) {kO : List AV → List AObj → Option β} {kP : List AV → List AObj → Prop} (hk : ∀ v H', kO v H' = some r → kP v H') : ∀ (cs : List COper) (tm : List AV) (H : List AObj), W7 EO kO cs tm H = some r → W7 E kP cs tm H
 | [], tm, H, he => hk _ _ he
 | c :: cs, tm, H, he => by
  have run : ∀ tm, V6 EO tm H (fun v hp => put tm c.dst v fun tm => W7 EO kO cs tm hp) c.op = some r → V6 E tm H (fun v hp => put tm c.dst v fun tm => W7 E kP cs tm hp) c.op := fun tm he =>
   Qgr h (fun v H' hv => by rw [Wy] at hv ⊢; exact Q34 h hk cs _ _ hv) he
  have skip : ∀ tm, (put tm c.dst Xb fun tm => W7 EO kO cs tm H) = some r → (put tm c.dst Xb fun tm => W7 E kP cs tm H) := fun tm hv => by
   rw [Wy] at hv ⊢; exact Q34 h hk cs _ _ hv
  simp only [J9] at he ⊢
  cases hg : c.guard with
  | none => rw [hg] at he; exact run tm he
  | some tw =>
   obtain ⟨t, want⟩ := tw;rw [hg] at he;simp only [G7, Q2m, Jc] at he ⊢;split at he
   ·rename_i b hv
    cases b <;> cases want <;> simp only [if_true, if_false, Lw] at he ⊢ <;> first | exact run _ he | exact skip _ he
   ·exact skip _ he
   ·rw [h.fail] at he; cases he

theorem Q5r (h : Hom EO E r) : ∀ (c : CC) (tm : List AV) (H : List AObj) (kO : CExit → List AV → List AObj → Option β) (kP : CExit → List AV → List AObj → Prop), (∀ e v H', kO e v H' = some r → kP e v H') → ev EO c tm H kO = some r → ev E c tm H kP
 | .skip, tm, H, kO, kP, hk, he => hk _ _ _ he
 | .exit _, tm, H, kO, kP, hk, he => hk _ _ _ he
 | .ret, tm, H, kO, kP, hk, he => hk _ _ _ he
 | .region false ops, tm, H, kO, kP, hk, he => Q34 h (fun v H' hv => hk _ _ _ hv) ops tm H he
 | .region true ops, tm, H, kO, kP, hk, he => h.draw ops tm H _ _ (fun v H' hv => hk _ _ _ hv) he
 | .seq a b, tm, H, kO, kP, hk, he => by
  refine Q5r h a tm H _ _ ?_ he;intro e v H' hv
  cases e with
  | normal => exact Q5r h b v H' kO kP hk hv
  | exit i => exact hk _ _ _ hv
  | ret => exact hk _ _ _ hv
 | .cond c a b, tm, H, kO, kP, hk, he => by
  simp only [Qka, Qo, Jc] at he ⊢;split at he
  ·rename_i x hv;cases x
   ·exact Q5r h b tm H kO kP hk (by simpa using he)
   exact Q5r h a tm H kO kP hk (by simpa using he)
  rw [h.fail] at he; cases he
 | .block id b, tm, H, kO, kP, hk, he => by
  refine Q5r h b tm H _ _ ?_ he;intro e v H' hv
  cases e with
  | normal => exact hk _ _ _ hv
  | exit i =>
   simp only [Jc] at hv ⊢;split at hv
   ·rename_i hi; rw [if_pos hi]; exact hk _ _ _ hv
   rename_i hi; rw [if_neg hi]; exact hk _ _ _ hv
  | ret => exact hk _ _ _ hv
 | .loop b, tm, H, kO, kP, hk, he => h.loop b tm H _ _ hk he
 | .join a b, tm, H, kO, kP, hk, he => h.join a b tm H _ _ hk he

theorem Q85 (h : Hom EO E r) {tm : List AV} {H : List AObj} : ∀ (rs : List CRes) (kO : List AV → Option β) (kP : List AV → Prop), (∀ v, kO v = some r → kP v) → Q95 EO tm H rs kO = some r → Q95 E tm H rs kP
 | [], kO, kP, hk, he => hk _ he
 | .tmp t :: rs, kO, kP, hk, he => by
  simp only [Qec, G7] at he ⊢;exact Q85 h rs _ _ (fun v hv => hk _ hv) he
 | .cell t n agg :: rs, kO, kP, hk, he => by
  simp only [Qb1, G7, Q4w, Q08, J5] at he ⊢;rw [h.glob] at he
  cases c1 : Un E.glob H (tm.getD t .any) with
  | none => simp only [c1, h.fail] at he; cases he
  | some cs =>
   simp only [c1] at he ⊢
   cases c2 : Q00 n cs with
   | none => simp only [c2, h.fail] at he; cases he
   | some ds =>
    simp only [c2] at he ⊢
    cases c3 : sOf agg ds with
    | none => simp only [c3, h.fail] at he; cases he
    | some v =>
     simp only [c3] at he ⊢;exact Q85 h rs _ _ (fun v hv => hk _ hv) he
theorem Qk6 {α : Type} (vs : List AV) (k : AV → α) : Qat vs k = k (match vs with | [v] => v | vs => .tuple vs) := by
 match vs with
 | [] => rfl
 | [v] => rfl
 | _ :: _ :: _ => rfl
theorem Qio (vs : List AV) (k : AV → Prop) : Qat vs k = k (match vs with | [v] => v | vs => .tuple vs) := by
 match vs with
 | [] => rfl
 | [v] => rfl
 | _ :: _ :: _ => rfl
theorem Q0h (h : Hom EO E r) {cf : CFunc} {args : List AV} {H : List AObj} {kO : AV → List AObj → Option β} {kP : AV → List AObj → Prop} (hk : ∀ v H', kO v H' = some r → kP v H') (he : Q0o EO cf args H kO = some r) : Q0o E cf args H kP := by
 simp only [Q0o, Qcf, J7] at he ⊢;refine Q5r h _ _ _ _ _ ?_ he;intro e tm H' hv
 have fin : (Q95 EO tm H' cf.results fun vs => Qat vs fun v => kO v H') = some r → (Q95 E tm H' cf.results fun vs => Qat vs fun v => kP v H') := fun he =>
  Q85 h _ _ _ (fun vs hv => by rw [Qk6] at hv; rw [Qio]; exact hk _ _ hv) he
 cases e with
 | normal => exact fin hv
 | exit i => simp only [h.fail] at hv; cases hv
 | ret => exact fin hv
end
end
end
end Go.Av
