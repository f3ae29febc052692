/- Part of the proof of FromsnApart: for every input the law returns true; no condition. -/
import Derived.Test.YtjhombimklaciaaGreatDoorAvClosed4
import Derived.Test.YtjhombimklaciaaGreatDoorAvGc
import Derived.Test.YtjhombimklaciaaGreatDoorAvDrawt
import Derived.Test.YtjhombimklaciaaGreatDoorAvAbb
namespace Go.Av
noncomputable section
def Qgl : List COper → Nat × Bool
 | [] => (0, true)
 | c :: r => match Qgl r with
  | (0, true) => match Q1j c with
   | true => (0, true)
   | false => (1, false)
  | (n, _) => (n + 1, false)
def Qu2 (q : Nat) (c : COper) : Bool := Nat.beq (c.bef % 2 ^ q) (2 ^ q - 1)
def Qsm (cs : List COper) : Nat → Nat → Nat
 | 0, q => q
 | n + 1, q => match (cs.drop q).all (Qu2 q) with
  | true => q
  | false => Qsm cs n (q + 1)
def Qrl (cs : List COper) (q : Nat) : Nat → Nat → Nat
 | 0, p => p
 | n + 1, p => match Q8r p ((cs.drop p).take (q - p)) with
  | true => p
  | false => Qrl cs q n (p + 1)
def Quf (cs : List COper) (n : Nat) : Nat × Nat := match Qsm cs n (Qgl cs).1 with
 | q => (Qrl cs q n 0, q)
def Qlw : List COper → Bool
 | [] => false
 | c :: r => match c.op.isCall with
  | true => true
  | false => Qlw r
def Qta (cs : List COper) (p m : Nat) (c0 : COper) (suf : List COper) : Bool :=
 Nat.ble m suf.length && (Q8r (cs.take p).length ((c0 :: suf).take (m + 1)) && (((c0 :: suf).drop (m + 1)).all Q1j && ((c0 :: suf).drop (m + 1)).all (fun c => Nat.beq (c.bef % 2 ^ ((cs.take p).length + (m + 1))) (2 ^ ((cs.take p).length + (m + 1)) - 1))))
def Q5m {α : Type} (fail : α) (kn : Know2) (EH : Env (Option (AV × List AObj))) (f : Nat) (args : List AV) (H : List AObj) (k : AV → List AObj → List Nat → List Nat → α) : α := match refsLt.refsLts 0 args with
 | true => match kn.tab f with
  | some cf => match Q0o EH cf args [] (fun v H' => some (v, H')) with
   | some (r, obs) => match Nat.ble 1 obs.length with
    | true => k (Q06 (fun j => H.length + j) r) (H ++ obs.map (Q49 (fun j => H.length + j))) [] (List.range' H.length obs.length)
    | false => fail
   | none => fail
  | none => fail
 | false => fail
def Q74 {α : Type} (fail : α) (kn : Know2) (EV : Env (Option PV)) (EA : Env (Option AV)) (EH : Env (Option (AV × List AObj))) (f : Nat) (args : List AV) (H : List AObj) (k : AV → List AObj → List Nat → List Nat → α) : α :=
 match AV.toPVs args with
 | some pa => match Q8l kn EV f pa with
  | some r => k (.p r) H [] []
  | none => Q5m fail kn EH f args H k
 | none => match Qcg H args with
  | some pa => match Q8l kn EV f pa with
   | some r => match Uo r with
    | true => k (.p r) H (Q52 H args) []
    | false => Q69 fail (fun _ => match (Q52 H args).all (fun a => Nat.blt a H.length) with
     | true => k (.p r) (G4 (Qr5 (Q52 H args)) H) (Q52 H args) (Q52 H args)
     | false => fail) kn EA f args H k
   | none => Q69 fail (fun _ => Q5m fail kn EH f args H k) kn EA f args H k
  | none => match args with
  | .ptr a 0 :: rest => match AV.toPVs rest with
   | some pr => match H[a]? with
    | some (.cells cs) => match Qrg cs with
     | some cells => match Qhc kn EV f cells pr with
      | some (.tuple [r, .agg cells']) => k (.p r) (H.set a (.cells (cells'.map .p))) [a] [a]
      | _ => Q69 fail (fun _ => Q5m fail kn EH f args H k) kn EA f args H k
     | none => Q69 fail (fun _ => Q5m fail kn EH f args H k) kn EA f args H k
    | _ => Q69 fail (fun _ => Q5m fail kn EH f args H k) kn EA f args H k
   | none => Q69 fail (fun _ => Q5m fail kn EH f args H k) kn EA f args H k
  | _ => Q69 fail (fun _ => Q5m fail kn EH f args H k) kn EA f args H k


def Wm (kn : Know2) (Gl : Nat → Option (List PV)) (N : Nat) : Nat → (β : Type) → Env (Option β)
 | 0, _ => { fail := none, cmp := ⟨Q7, rfl⟩, scmp := ⟨Jx, rfl⟩, glob := Gl, call := fun _ _ _ _ => none, loop := fun _ _ _ _ => none, join := fun _ _ _ _ _ => none, draw := fun _ _ _ _ => none }
 | d + 1, β => Env.mk none ⟨Q7, rfl⟩ ⟨Jx, rfl⟩ Gl
   (Qpx kn (Wm kn Gl N d PV) fun f args H k => match kn.tab f with
     | some cf => Q0o (Wm kn Gl N d β) cf args H k
     | none => none)
   (fun b tm H k => Qf0 (Wm kn Gl N d β) b N tm H k)
   (fun a b tm H k => ev (Wm kn Gl N d β) a tm H fun e tm H => match e with
    | .normal => ev (Wm kn Gl N d β) b tm H k
    | .exit i => k (.exit i) tm H
    | .ret => k .ret tm H)
   (fun ops tm H k => match Q1t 0 ops with
    | (pre, suf) => match Qlw pre with
     | true => match Quf ops ops.length with
      | (p, q) => match Nat.blt p pre.length with
       | true => match ops.drop p with
        | c0 :: suf2 => match Qta ops p (q - p - 1) c0 suf2 with
         | true => Wt (Wm kn Gl N d β) (Q74 none kn (Wm kn Gl N d PV) (Wm kn Gl N d AV) (Wm kn Gl N d (AV × List AObj))) (fun tm H => W7 (Wm kn Gl N d β) k (c0 :: suf2) tm H) (ops.take p) tm H 0 []
         | false => Wt (Wm kn Gl N d β) (Q74 none kn (Wm kn Gl N d PV) (Wm kn Gl N d AV) (Wm kn Gl N d (AV × List AObj))) (fun tm H => W7 (Wm kn Gl N d β) k suf tm H) pre tm H 0 []
        | [] => Wt (Wm kn Gl N d β) (Q74 none kn (Wm kn Gl N d PV) (Wm kn Gl N d AV) (Wm kn Gl N d (AV × List AObj))) (fun tm H => W7 (Wm kn Gl N d β) k suf tm H) pre tm H 0 []
       | false => Wt (Wm kn Gl N d β) (Q74 none kn (Wm kn Gl N d PV) (Wm kn Gl N d AV) (Wm kn Gl N d (AV × List AObj))) (fun tm H => W7 (Wm kn Gl N d β) k suf tm H) pre tm H 0 []
     | false => Wt (Wm kn Gl N d β) (Q74 none kn (Wm kn Gl N d PV) (Wm kn Gl N d AV) (Wm kn Gl N d (AV × List AObj))) (fun tm H => W7 (Wm kn Gl N d β) k suf tm H) pre tm H 0 [])
section
variable {P : Program} {Gl : Nat → Option (List PV)} {kn : Know2}
theorem G5 (hkn : KnowOk2 P Gl kn) {β : Type} {EH : Env (Option (AV × List AObj))} (hEH : ∀ r, Hom EH (EP P Gl) r) {r : β} {f : Nat} {args : List AV} {H : List AObj}
  {kO : AV → List AObj → List Nat → List Nat → Option β} {kP : AV → List AObj → List Nat → List Nat → Prop} (hk : ∀ v H' R A, kO v H' R A = some r → kP v H' R A) (he : Q5m none kn EH f args H kO = some r) : Xt P Gl f args H kP := by
 unfold Q5m at he;split at he
 ·rename_i h1;split at he
  ·rename_i cf hcf;split at he
   ·rename_i v obs hv;split at he
    ·rename_i h0;have hc : GC P Gl f args [] v obs := Q8 (hkn.tab f cf hcf) (Q0h (hEH (v, obs)) (fun v0 H' h => by cases h; exact ⟨rfl, rfl⟩) hv)
     exact Qk4 hc h0 ⟨rfl, fun i v u hv hu => by
      rw [hv] at hu; cases hu;have := RenV.same (ρ := fun i => i) (K := fun _ => False) (H := H) v
      rwa [Qbq] at this⟩ h1 _ rfl rfl rfl (hk _ _ _ _ he)
    cases he
   cases he
  cases he
 cases he
theorem Q6z (hkn : KnowOk2 P Gl kn) {β : Type} {EV : Env (Option PV)} (hEV : ∀ r, Hom EV (EP P Gl) r) {EA : Env (Option AV)} (hEA : ∀ r, Hom EA (EP P Gl) r) {EH : Env (Option (AV × List AObj))} (hEH : ∀ r, Hom EH (EP P Gl) r) {r : β} {f : Nat} {args : List AV} {H : List AObj}
  {kO : AV → List AObj → List Nat → List Nat → Option β} {kP : AV → List AObj → List Nat → List Nat → Prop} (hk : ∀ v H' R A, kO v H' R A = some r → kP v H' R A) (he : Q74 none kn EV EA EH f args H kO = some r) : Xt P Gl f args H kP := by
 unfold Q74 at he;split at he
 ·rename_i pa h1;split at he
  ·rename_i x h2;have hp := Ja hkn (hEV x) h2;exact .inl ⟨[], [], .p x, fun s h => (by cases h), fun H2 _ => W1 hp (Jr args pa h1) ⟨rfl, rfl⟩, hk _ _ _ _ he⟩
  exact G5 hkn hEH hk he
 split at he
 ·rename_i pa h1;split at he
  ·rename_i x h2;split at he
   ·rename_i h3;have q := Q18 args pa h1;have hp := Ja hkn (hEV x) h2;exact .inl ⟨Q52 H args, [], .p x, fun s h => (by cases h), fun H2 hH2 => Qdu hp ⟨q.1, fun i v x hv hx => Q94 (fun a o hk ho => ⟨trivial, hH2 a hk o ho⟩) (q.2 i v x hv hx)⟩ h3 ⟨rfl, rfl⟩, hk _ _ _ _ he⟩
   refine Ge hkn hEA hk (fun hz => ?_) he;split at hz
   ·rename_i hR;have q := Q18 args pa h1;have hp := Ja hkn (hEV x) h2;exact Qj1 _ hp q (fun a ha => by simpa using Lp.1 hR a ha) (hk _ _ _ _ hz)
   cases hz
  exact Ge hkn hEA hk (fun h => G5 hkn hEH hk h) he
 ·split at he
  ·rename_i a rest _ _;split at he
   ·rename_i pr h1;split at he
    ·rename_i cs ha;split at he
     ·rename_i cells hc;split at he
      ·rename_i x cells' h2;have hm := Q7i hkn (hEV _) h2;refine .inl ⟨[a], [(a, .cells (cells'.map .p))], .p x, fun s hs => ?_, fun H2 hH2 => ?_, hk _ _ _ _ he⟩
       ·simp at hs; subst hs; exact (La.1 ha).1
       refine Q5d hm ?_ (Jr rest pr h1) ⟨rfl, rfl⟩;rw [hH2 a (by simp) _ ha, Qez _ _ hc]
      exact Ge hkn hEA hk (fun h => G5 hkn hEH hk h) he
     exact Ge hkn hEA hk (fun h => G5 hkn hEH hk h) he
    exact Ge hkn hEA hk (fun h => G5 hkn hEH hk h) he
   exact Ge hkn hEA hk (fun h => G5 hkn hEH hk h) he
  ·exact Ge hkn hEA hk (fun h => G5 hkn hEH hk h) he


theorem Qdc (hkn : KnowOk2 P Gl kn) (N : Nat) : ∀ (d : Nat) (β : Type) (r : β), Hom (Wm kn Gl N d β) (EP P Gl) r
 | 0, β, r => ⟨rfl, rfl, fun f a H kO kP hk he => (by simp only [Wm] at he; cases he), fun b tm H kO kP hk he => (by simp only [Wm] at he; cases he), fun a b tm H kO kP hk he => (by simp only [Wm] at he; cases he), fun b tm H kO kP hk he => (by simp only [Wm] at he; cases he)⟩
 | d + 1, β, r => by
  have ih := Qdc hkn N d;refine ⟨rfl, rfl, fun f a H kO kP hk he => ?_, fun b tm H kO kP hk he => ?_, fun a b tm H kO kP hk he => ?_, fun ops tm H kO kP hk he => ?_⟩
  ·simp only [Wm] at he;refine Qls hkn (ih PV) hk (fun he => ?_) he
   cases ht : kn.tab f with
   | none => simp only [ht] at he; cases he
   | some cf =>
    simp only [ht] at he;exact Q8 (hkn.tab f cf ht) (Q0h (ih β r) hk he)
  ·simp only [Wm] at he;exact Qx N (Qe2 (ih β r) hk N tm H he)
  ·simp only [Wm] at he;refine Qhe (Q5r (ih β r) a tm H _ _ (fun e v H' hv => ?_) he)
   cases e with
   | normal => exact Q5r (ih β r) b v H' kO kP hk hv
   | exit i => exact hk _ _ _ hv
   | ret => exact hk _ _ _ hv
  ·have old : Wt (Wm kn Gl N d β) (Q74 none kn (Wm kn Gl N d PV) (Wm kn Gl N d AV) (Wm kn Gl N d (AV × List AObj))) (fun tm H => W7 (Wm kn Gl N d β) kO (Q1t 0 ops).2 tm H) (Q1t 0 ops).1 tm H 0 [] = some r →
     Q6k P Gl ops tm H kP := by
    intro he2;obtain ⟨h1, h2⟩ := Q9c ops 0;rw [Me] at h2;generalize (Q1t 0 ops).1 = pre at he2 h1 h2;generalize (Q1t 0 ops).2 = suf at he2 h1 h2;clear he;subst h1
    cases suf with
    | nil =>
     rw [Ng];exact Qi (Q1w (dP := Xt P Gl) (ih β r) (fun f a H kO kP hk he => Q6z hkn (ih PV) (ih AV) (ih (AV × List AObj)) hk he) hk pre tm H 0 [] he2)
    | cons c0 suf => exact Qeb h2 (Q1w (dP := Xt P Gl) (ih β r) (fun f a H kO kP hk he => Q6z hkn (ih PV) (ih AV) (ih (AV × List AObj)) hk he) (fun tm' H' hv => Q34 (ih β r) hk _ tm' H' hv) pre tm H 0 [] he2)
   simp only [Wm] at he;split at he
   ·split at he
    ·split at he
     ·rename_i c0 suf2 hd;split at he
      ·rename_i hb;simp only [Qta, Lb] at hb;obtain ⟨b1, b2, b3, b4⟩ := hb;exact Qhx _ _ hd b1 b2 b3 b4 (Q1w (dP := Xt P Gl) (ih β r) (fun f a H kO kP hk he => Q6z hkn (ih PV) (ih AV) (ih (AV × List AObj)) hk he) (fun tm' H' hv => Q34 (ih β r) hk _ tm' H' hv) _ tm H 0 [] he)
      exact old he
     exact old he
    exact old he
   ·exact old he

theorem Qek (hkn : KnowOk2 P Gl kn) {N d : Nat} {f : Nat} {args : List PV} {r : PV} (h : Q8l kn (Wm kn Gl N d PV) f args = some r) : Q6d P Gl f args r :=
 Ja hkn (Qdc hkn N d PV r) h
end
end
end Go.Av
