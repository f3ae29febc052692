/- Part of the proof of CrossNames: for every input the law returns true; no condition. -/
import Derived.Test.YtnbfaogioomghaaGreatDoorClosed5
namespace Go.Av
noncomputable section
def Q1c {α : Type} (I : Nat → Bool) (fail : α) (kn : Know2) (EV : Env (Option PV)) (EA : Env (Option AV)) (EH : Env (Option (AV × List AObj))) (f : Nat) (args : List AV) (H : List AObj) (k : AV → List AObj → List Nat → List Nat → α) : α := match I f with
 | true => Js fail kn EH f args H k
 | false => Qc4 fail kn EV EA EH f args H k
def Zl (I : Nat → Bool) (kn : Know2) (Gl : Nat → Option (List PV)) (N : Nat) : Nat → (β : Type) → Env (Option β)
 | 0, _ => { fail := none, cmp := ⟨Qi, rfl⟩, scmp := ⟨Q7f, rfl⟩, glob := Gl, call := fun _ _ _ _ => none, loop := fun _ _ _ _ => none, join := fun _ _ _ _ _ => none, draw := fun _ _ _ _ => none }
 | d + 1, β => Env.mk none ⟨Qi, rfl⟩ ⟨Q7f, rfl⟩ Gl
   (fun f args H k => match I f with
     | true => (match kn.tab f with
      | some cf => W6 (Zl I kn Gl N d β) cf args H k
      | none => none)
     | false => Qdv kn (Zl I kn Gl N d PV) (fun f args H k => match kn.tab f with
      | some cf => W6 (Zl I kn Gl N d β) cf args H k
      | none => none) f args H k)
   (fun b tm H k => Q5v (Zl I kn Gl N d β) b N tm H k)
   (fun a b tm H k => ev (Zl I kn Gl N d β) a tm H fun e tm H => match e with
    | .normal => ev (Zl I kn Gl N d β) b tm H k
    | .exit i => k (.exit i) tm H
    | .ret => k .ret tm H)
   (fun ops tm H k => match Wp 0 ops with
    | (pre, suf) => match Qb9 pre with
     | true => match Qj4 ops ops.length with
      | (p, q) => match Nat.blt p pre.length with
       | true => match ops.drop p with
        | c0 :: suf2 => match Qh8 ops p (q - p - 1) c0 suf2 with
         | true => Y0 (Zl I kn Gl N d β) (Q1c I none kn (Zl I kn Gl N d PV) (Zl I kn Gl N d AV) (Zl I kn Gl N d (AV × List AObj))) (fun tm H => Zp (Zl I kn Gl N d β) k (c0 :: suf2) tm H) (ops.take p) tm H 0 []
         | false => Y0 (Zl I kn Gl N d β) (Q1c I none kn (Zl I kn Gl N d PV) (Zl I kn Gl N d AV) (Zl I kn Gl N d (AV × List AObj))) (fun tm H => Zp (Zl I kn Gl N d β) k suf tm H) pre tm H 0 []
        | [] => Y0 (Zl I kn Gl N d β) (Q1c I none kn (Zl I kn Gl N d PV) (Zl I kn Gl N d AV) (Zl I kn Gl N d (AV × List AObj))) (fun tm H => Zp (Zl I kn Gl N d β) k suf tm H) pre tm H 0 []
       | false => Y0 (Zl I kn Gl N d β) (Q1c I none kn (Zl I kn Gl N d PV) (Zl I kn Gl N d AV) (Zl I kn Gl N d (AV × List AObj))) (fun tm H => Zp (Zl I kn Gl N d β) k suf tm H) pre tm H 0 []
     | false => Y0 (Zl I kn Gl N d β) (Q1c I none kn (Zl I kn Gl N d PV) (Zl I kn Gl N d AV) (Zl I kn Gl N d (AV × List AObj))) (fun tm H => Zp (Zl I kn Gl N d β) k suf tm H) pre tm H 0 [])
section
variable {P : Program} {Gl : Nat → Option (List PV)} {kn : Know2} {I : Nat → Bool}
theorem Q0t (hkn : KnowOk2 P Gl kn) {β : Type} {EV : Env (Option PV)} (hEV : ∀ r, Hom EV (EP P Gl) r) {EA : Env (Option AV)} (hEA : ∀ r, Hom EA (EP P Gl) r) {EH : Env (Option (AV × List AObj))} (hEH : ∀ r, Hom EH (EP P Gl) r) {r : β} {f : Nat} {args : List AV} {H : List AObj}
  {kO : AV → List AObj → List Nat → List Nat → Option β} {kP : AV → List AObj → List Nat → List Nat → Prop} (hk : ∀ v H' R A, kO v H' R A = some r → kP v H' R A) (he : Q1c I none kn EV EA EH f args H kO = some r) : Z6 P Gl f args H kP := by
 unfold Q1c at he;split at he
 ·exact Xd hkn hEH hk he
 exact Q9q hkn hEV hEA hEH hk he
theorem Q6g (hkn : KnowOk2 P Gl kn) (N : Nat) : ∀ (d : Nat) (β : Type) (r : β), Hom (Zl I kn Gl N d β) (EP P Gl) r
 | 0, β, r => ⟨rfl, rfl, fun f a H kO kP hk he => (by simp only [Zl] at he; cases he), fun b tm H kO kP hk he => (by simp only [Zl] at he; cases he), fun a b tm H kO kP hk he => (by simp only [Zl] at he; cases he), fun b tm H kO kP hk he => (by simp only [Zl] at he; cases he)⟩
 | d + 1, β, r => by
  have ih := Q6g hkn N d;refine ⟨rfl, rfl, fun f a H kO kP hk he => ?_, fun b tm H kO kP hk he => ?_, fun a b tm H kO kP hk he => ?_, fun ops tm H kO kP hk he => ?_⟩
  ·simp only [Zl] at he
   have go : ∀ {f : Nat} {a : List AV} {H : List AObj} {kO : AV → List AObj → Option β} {kP : AV → List AObj → Prop}, (∀ v H', kO v H' = some r → kP v H') → (match kn.tab f with | some cf => W6 (Zl I kn Gl N d β) cf a H kO | none => none) = some r → Ze P Gl f a H kP := fun {f a H kO kP} hk he => by
    cases ht : kn.tab f with
    | none => simp only [ht] at he; cases he
    | some cf =>
     simp only [ht] at he;exact Q10 (hkn.tab f cf ht) (Xz (ih β r) hk he)
   cases hI : I f with
   | true => simp only [hI] at he; exact go hk he
   | false =>
    simp only [hI] at he;exact Q6l hkn (ih PV) hk (fun he => go hk he) he
  ·simp only [Zl] at he;exact Q1s N (Q38 (ih β r) hk N tm H he)
  ·simp only [Zl] at he;refine Q9d (J0 (ih β r) a tm H _ _ (fun e v H' hv => ?_) he)
   cases e with
   | normal => exact J0 (ih β r) b v H' kO kP hk hv
   | exit i => exact hk _ _ _ hv
   | ret => exact hk _ _ _ hv
  ·have old : Y0 (Zl I kn Gl N d β) (Q1c I none kn (Zl I kn Gl N d PV) (Zl I kn Gl N d AV) (Zl I kn Gl N d (AV × List AObj))) (fun tm H => Zp (Zl I kn Gl N d β) kO (Wp 0 ops).2 tm H) (Wp 0 ops).1 tm H 0 [] = some r →
     Q3c P Gl ops tm H kP := by
    intro he2;obtain ⟨h1, h2⟩ := G2 ops 0;rw [Ly] at h2;generalize (Wp 0 ops).1 = pre at he2 h1 h2;generalize (Wp 0 ops).2 = suf at he2 h1 h2;clear he;subst h1
    cases suf with
    | nil =>
     rw [Nj];exact Z1 (Xw (dP := Z6 P Gl) (ih β r) (fun f a H kO kP hk he => Q0t hkn (ih PV) (ih AV) (ih (AV × List AObj)) hk he) hk pre tm H 0 [] he2)
    | cons c0 suf => exact Q6u h2 (Xw (dP := Z6 P Gl) (ih β r) (fun f a H kO kP hk he => Q0t hkn (ih PV) (ih AV) (ih (AV × List AObj)) hk he) (fun tm' H' hv => Vq (ih β r) hk _ tm' H' hv) pre tm H 0 [] he2)
   simp only [Zl] at he;split at he
   ·split at he
    ·split at he
     ·rename_i c0 suf2 hd;split at he
      ·rename_i hb;simp only [Qh8, Lb] at hb;obtain ⟨b1, b2, b3, b4⟩ := hb;exact Qej _ _ hd b1 b2 b3 b4 (Xw (dP := Z6 P Gl) (ih β r) (fun f a H kO kP hk he => Q0t hkn (ih PV) (ih AV) (ih (AV × List AObj)) hk he) (fun tm' H' hv => Vq (ih β r) hk _ tm' H' hv) _ tm H 0 [] he)
      exact old he
     exact old he
    exact old he
   ·exact old he

theorem Qo (hkn : KnowOk2 P Gl kn) {N d : Nat} {f : Nat} {args : List PV} {r : PV} (h : Jo kn (Zl I kn Gl N d PV) f args = some r) : Pure P Gl f args r :=
 Zg hkn (Q6g hkn N d PV r) h
end
end
end Go.Av
