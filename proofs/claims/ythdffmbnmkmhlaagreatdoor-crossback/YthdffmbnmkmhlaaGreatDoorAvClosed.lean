/- Part of the proof of CrossBack: for every input the law returns true; no condition. -/
import Derived.Test.YthdffmbnmkmhlaaGreatDoorAvDraws
import Derived.LoopN
namespace Go.Av
noncomputable section
section
variable {P : Program} {Gl : Nat → Option (List PV)}

theorem Qc4 {b : CC} {code : Code} (hk : Vk P code b = true) {θ0 : Th} {H0 : List AObj} {w0 : World} (hG0 : GlobOK Gl θ0 H0 w0) {Q : CExit → List AV → List AObj → Prop} : ∀ (n : Nat) (tm : List AV) (H : List AObj),
  Qn7 (EP P Gl) b n tm H Q → ∀ θ a w, EvoS θ0 H0 w0 θ H w → TmOk θ (Qp θ H) w tm a → Hp θ H w → Code.rounds P code (Z20 θ0 H0 w0 Q) n a w
 | 0, tm, H, h => h.elim
 | n + 1, tm, H, h => fun θ a w hE hT hH => by
  rw [rounds_succ];refine wp_mono (Q9g code b hk tm H _ h θ a w hT hH (hG0.evo hE.toEvo)) ?_
  rintro e a' w' ⟨ce, tm', H', θ', h1, h2, h3, h4, h5⟩
  cases ce <;> cases e <;> simp only [Qdo] at h1
  ·exact Qc4 hk hG0 n tm' H' h2 θ' a' w' (hE.trans h5) h3 h4
  ·subst h1; exact ⟨.exit _, tm', H', θ', rfl, h2, h3, h4, hE.trans h5⟩
  exact ⟨.ret, tm', H', θ', trivial, h2, h3, h4, hE.trans h5⟩
theorem Qep {b : CC} (n : Nat) {tm : List AV} {H : List AObj} {Q : CExit → List AV → List AObj → Prop} (h : Qn7 (EP P Gl) b n tm H Q) : Q9a P Gl b tm H Q :=
 fun _ hk θ a w hT hH hG => wp_loop_rounds n (Qc4 hk hG n tm H h θ a w (.refl _ _ _) hT hH)

structure Hom {β : Type} (EO : Env (Option β)) (E : Env Prop) (r : β) : Prop where
 fail : EO.fail = none
 glob : EO.glob = E.glob
 call : ∀ f a H (kO : AV → List AObj → Option β) (kP : AV → List AObj → Prop), (∀ v H', kO v H' = some r → kP v H') → EO.call f a H kO = some r → E.call f a H kP
 loop : ∀ b tm H (kO : CExit → List AV → List AObj → Option β) (kP : CExit → List AV → List AObj → Prop), (∀ e v H', kO e v H' = some r → kP e v H') → EO.loop b tm H kO = some r → E.loop b tm H kP
 join : ∀ a b tm H (kO : CExit → List AV → List AObj → Option β) (kP : CExit → List AV → List AObj → Prop), (∀ e v H', kO e v H' = some r → kP e v H') → EO.join a b tm H kO = some r → E.join a b tm H kP
 draw : ∀ ops tm H (kO : List AV → List AObj → Option β) (kP : List AV → List AObj → Prop), (∀ v H', kO v H' = some r → kP v H') → EO.draw ops tm H kO = some r → E.draw ops tm H kP

section
variable {β : Type} {EO : Env (Option β)} {E : Env Prop} {r : β}

theorem Qno (h : Hom EO E r) {c : COp} {tm : List AV} {H : List AObj} {kO : AV → List AObj → Option β} {kP : AV → List AObj → Prop} (hk : ∀ v H', kO v H' = some r → kP v H') (he : Gb EO tm H kO c = some r) : Gb E tm H kP c := by
 by_cases hc : c.isCall = false
 ·rw [Qex _ _ _ _ _ hc] at he ⊢;rw [h.glob] at he
  cases hs : Qr E.glob tm H H.length c with
  | none => rw [hs] at he; exact absurd (show EO.fail = some r from he) (by rw [h.fail]; simp)
  | some ve => obtain ⟨v, e⟩ := ve; rw [hs] at he; exact hk _ _ he
 ·cases c <;> try (simp [COp.isCall] at hc; done)
  case call f args =>
   simp only [Gb, Qj7, Q0c] at he ⊢;exact h.call _ _ _ _ _ hk he
  case callv f args =>
   simp only [Gb, Q9t, Q0c, Qs, Q1n, U9] at he ⊢;split at he
   ·exact h.call _ _ _ _ _ hk he
   ·exact h.call _ _ _ _ _ hk he
   ·rw [h.fail] at he; cases he

theorem Qac (h : Hom EO E r) {kO : List AV → List AObj → Option β} {kP : List AV → List AObj → Prop} (hk : ∀ v H', kO v H' = some r → kP v H') : ∀ (cs : List COper) (tm : List AV) (H : List AObj), Q46 EO kO cs tm H = some r → Q46 E kP cs tm H
 | [], tm, H, he => hk _ _ he
 | c :: cs, tm, H, he => by
  have run : ∀ tm, Gb EO tm H (fun v hp => put tm c.dst v fun tm => Q46 EO kO cs tm hp) c.op = some r → Gb E tm H (fun v hp => put tm c.dst v fun tm => Q46 E kP cs tm hp) c.op := fun tm he =>
   Qno h (fun v H' hv => by rw [Q0g] at hv ⊢; exact Qac h hk cs _ _ hv) he
  have skip : ∀ tm, (put tm c.dst Vm fun tm => Q46 EO kO cs tm H) = some r → (put tm c.dst Vm fun tm => Q46 E kP cs tm H) := fun tm hv => by
   rw [Q0g] at hv ⊢; exact Qac h hk cs _ _ hv
  simp only [Qbt] at he ⊢
  cases hg : c.guard with
  | none => rw [hg] at he; exact run tm he
  | some tw =>
   obtain ⟨t, want⟩ := tw;rw [hg] at he;simp only [Q3j, Q9n, Q2a] at he ⊢;split at he
   ·rename_i b hv
    cases b <;> cases want <;> simp only [if_true, if_false, Lf] at he ⊢ <;> first | exact run _ he | exact skip _ he
   ·exact skip _ he
   ·rw [h.fail] at he; cases he

theorem Qap (h : Hom EO E r) : ∀ (c : CC) (tm : List AV) (H : List AObj) (kO : CExit → List AV → List AObj → Option β) (kP : CExit → List AV → List AObj → Prop), (∀ e v H', kO e v H' = some r → kP e v H') → ev EO c tm H kO = some r → ev E c tm H kP
 | .skip, tm, H, kO, kP, hk, he => hk _ _ _ he
 | .exit _, tm, H, kO, kP, hk, he => hk _ _ _ he
 | .ret, tm, H, kO, kP, hk, he => hk _ _ _ he
 | .region false ops, tm, H, kO, kP, hk, he => Qac h (fun v H' hv => hk _ _ _ hv) ops tm H he
 | .region true ops, tm, H, kO, kP, hk, he => h.draw ops tm H _ _ (fun v H' hv => hk _ _ _ hv) he
 | .seq a b, tm, H, kO, kP, hk, he => by
  refine Qap h a tm H _ _ ?_ he;intro e v H' hv
  cases e with
  | normal => exact Qap h b v H' kO kP hk hv
  | exit i => exact hk _ _ _ hv
  | ret => exact hk _ _ _ hv
 | .cond c a b, tm, H, kO, kP, hk, he => by
  simp only [Qsq, Qs, Q2a] at he ⊢;split at he
  ·rename_i x hv;cases x
   ·exact Qap h b tm H kO kP hk (by simpa using he)
   exact Qap h a tm H kO kP hk (by simpa using he)
  rw [h.fail] at he; cases he
 | .block id b, tm, H, kO, kP, hk, he => by
  refine Qap h b tm H _ _ ?_ he;intro e v H' hv
  cases e with
  | normal => exact hk _ _ _ hv
  | exit i =>
   simp only [Q2a] at hv ⊢;split at hv
   ·rename_i hi; rw [if_pos hi]; exact hk _ _ _ hv
   rename_i hi; rw [if_neg hi]; exact hk _ _ _ hv
  | ret => exact hk _ _ _ hv
 | .loop b, tm, H, kO, kP, hk, he => h.loop b tm H _ _ hk he
 | .join a b, tm, H, kO, kP, hk, he => h.join a b tm H _ _ hk he

theorem Qdy (h : Hom EO E r) {tm : List AV} {H : List AObj} : ∀ (rs : List CRes) (kO : List AV → Option β) (kP : List AV → Prop), (∀ v, kO v = some r → kP v) → Qe0 EO tm H rs kO = some r → Qe0 E tm H rs kP
 | [], kO, kP, hk, he => hk _ he
 | .tmp t :: rs, kO, kP, hk, he => by
  simp only [Qkl, Q3j] at he ⊢;exact Qdy h rs _ _ (fun v hv => hk _ hv) he
 | .cell t n agg :: rs, kO, kP, hk, he => by
  simp only [Qgk, Q3j, Q8u, Q3b, Q11] at he ⊢;rw [h.glob] at he
  cases c1 : Q0f E.glob H (tm.getD t .any) with
  | none => simp only [c1, h.fail] at he; cases he
  | some cs =>
   simp only [c1] at he ⊢
   cases c2 : Q32 n cs with
   | none => simp only [c2, h.fail] at he; cases he
   | some ds =>
    simp only [c2] at he ⊢
    cases c3 : sOf agg ds with
    | none => simp only [c3, h.fail] at he; cases he
    | some v =>
     simp only [c3] at he ⊢;exact Qdy h rs _ _ (fun v hv => hk _ hv) he
theorem Qu2 {α : Type} (vs : List AV) (k : AV → α) : Qg3 vs k = k (match vs with | [v] => v | vs => .tuple vs) := by
 match vs with
 | [] => rfl
 | [v] => rfl
 | _ :: _ :: _ => rfl
theorem Qqm (vs : List AV) (k : AV → Prop) : Qg3 vs k = k (match vs with | [v] => v | vs => .tuple vs) := by
 match vs with
 | [] => rfl
 | [v] => rfl
 | _ :: _ :: _ => rfl
theorem Q57 (h : Hom EO E r) {cf : CFunc} {args : List AV} {H : List AObj} {kO : AV → List AObj → Option β} {kP : AV → List AObj → Prop} (hk : ∀ v H', kO v H' = some r → kP v H') (he : Q4c EO cf args H kO = some r) : Q4c E cf args H kP := by
 simp only [Q4c, Qi6, Q1n] at he ⊢;refine Qap h _ _ _ _ _ ?_ he;intro e tm H' hv
 have fin : (Qe0 EO tm H' cf.results fun vs => Qg3 vs fun v => kO v H') = some r → (Qe0 E tm H' cf.results fun vs => Qg3 vs fun v => kP v H') := fun he =>
  Qdy h _ _ _ (fun vs hv => by rw [Qu2] at hv; rw [Qqm]; exact hk _ _ hv) he
 cases e with
 | normal => exact fin hv
 | exit i => simp only [h.fail] at hv; cases hv
 | ret => exact fin hv
end
end
end
end Go.Av
