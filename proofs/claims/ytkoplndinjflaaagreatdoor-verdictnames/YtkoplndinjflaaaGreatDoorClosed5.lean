/- Part of the proof of VerdictNames: for every input the law returns true; no condition. -/
import Derived.Test.YtkoplndinjflaaaGreatDoorAvClosed4
import Derived.Test.YtkoplndinjflaaaGreatDoorAvGc
import Derived.Test.YtkoplndinjflaaaGreatDoorAvDrawt
import Derived.Test.YtkoplndinjflaaaGreatDoorAvAbb
namespace Go.Av
noncomputable section
def Q3a : List COper → Nat × Bool
 | [] => (0, true)
 | c :: r => match Q3a r with
  | (0, true) => match Yn c with
   | true => (0, true)
   | false => (1, false)
  | (n, _) => (n + 1, false)
def Qbh (q : Nat) (c : COper) : Bool := Nat.beq (c.bef % 2 ^ q) (2 ^ q - 1)
def Q9l (cs : List COper) : Nat → Nat → Nat
 | 0, q => q
 | n + 1, q => match (cs.drop q).all (Qbh q) with
  | true => q
  | false => Q9l cs n (q + 1)
def Qa0 (cs : List COper) (q : Nat) : Nat → Nat → Nat
 | 0, p => p
 | n + 1, p => match Ju p ((cs.drop p).take (q - p)) with
  | true => p
  | false => Qa0 cs q n (p + 1)
def Qax (cs : List COper) (n : Nat) : Nat × Nat := match Q9l cs n (Q3a cs).1 with
 | q => (Qa0 cs q n 0, q)
def Q6n : List COper → Bool
 | [] => false
 | c :: r => match c.op.isCall with
  | true => true
  | false => Q6n r
def Q9k (cs : List COper) (p m : Nat) (c0 : COper) (suf : List COper) : Bool :=
 Nat.ble m suf.length && (Ju (cs.take p).length ((c0 :: suf).take (m + 1)) && (((c0 :: suf).drop (m + 1)).all Yn && ((c0 :: suf).drop (m + 1)).all (fun c => Nat.beq (c.bef % 2 ^ ((cs.take p).length + (m + 1))) (2 ^ ((cs.take p).length + (m + 1)) - 1))))
def Wq {α : Type} (fail : α) (kn : Know2) (EH : Env (Option (AV × List AObj))) (f : Nat) (args : List AV) (H : List AObj) (k : AV → List AObj → List Nat → List Nat → α) : α := match refsLt.refsLts 0 args with
 | true => match kn.tab f with
  | some cf => match Yu EH cf args [] (fun v H' => some (v, H')) with
   | some (r, obs) => match Nat.ble 1 obs.length with
    | true => k (Yv (fun j => H.length + j) r) (H ++ obs.map (Q1g (fun j => H.length + j))) [] (List.range' H.length obs.length)
    | false => fail
   | none => fail
  | none => fail
 | false => fail
def Vy {α : Type} (fail : α) (kn : Know2) (EV : Env (Option PV)) (EA : Env (Option AV)) (EH : Env (Option (AV × List AObj))) (f : Nat) (args : List AV) (H : List AObj) (k : AV → List AObj → List Nat → List Nat → α) : α :=
 match AV.toPVs args with
 | some pa => match Je kn EV f pa with
  | some r => k (.p r) H [] []
  | none => Wq fail kn EH f args H k
 | none => match Q07 H args with
  | some pa => match Je kn EV f pa with
   | some r => match Xj r with
    | true => k (.p r) H (W6 H args) []
    | false => Wz fail (fun _ => match (W6 H args).all (fun a => Nat.blt a H.length) with
     | true => k (.p r) (Zq (Q90 (W6 H args)) H) (W6 H args) (W6 H args)
     | false => fail) kn EA f args H k
   | none => Wz fail (fun _ => Wq fail kn EH f args H k) kn EA f args H k
  | none => match args with
  | .ptr a 0 :: rest => match AV.toPVs rest with
   | some pr => match H[a]? with
    | some (.cells cs) => match Q9d cs with
     | some cells => match Q35 kn EV f cells pr with
      | some (.tuple [r, .agg cells']) => k (.p r) (H.set a (.cells (cells'.map .p))) [a] [a]
      | _ => Wz fail (fun _ => Wq fail kn EH f args H k) kn EA f args H k
     | none => Wz fail (fun _ => Wq fail kn EH f args H k) kn EA f args H k
    | _ => Wz fail (fun _ => Wq fail kn EH f args H k) kn EA f args H k
   | none => Wz fail (fun _ => Wq fail kn EH f args H k) kn EA f args H k
  | _ => Wz fail (fun _ => Wq fail kn EH f args H k) kn EA f args H k


def Qq (kn : Know2) (Gl : Nat → Option (List PV)) (N : Nat) : Nat → (β : Type) → Env (Option β)
 | 0, _ => { fail := none, cmp := ⟨Q6z, rfl⟩, scmp := ⟨Q7q, rfl⟩, glob := Gl, call := fun _ _ _ _ => none, loop := fun _ _ _ _ => none, join := fun _ _ _ _ _ => none, draw := fun _ _ _ _ => none }
 | d + 1, β => Env.mk none ⟨Q6z, rfl⟩ ⟨Q7q, rfl⟩ Gl
   (Q97 kn (Qq kn Gl N d PV) fun f args H k => match kn.tab f with
     | some cf => Yu (Qq kn Gl N d β) cf args H k
     | none => none)
   (fun b tm H k => Q2e (Qq kn Gl N d β) b N tm H k)
   (fun a b tm H k => ev (Qq kn Gl N d β) a tm H fun e tm H => match e with
    | .normal => ev (Qq kn Gl N d β) b tm H k
    | .exit i => k (.exit i) tm H
    | .ret => k .ret tm H)
   (fun ops tm H k => match Yq 0 ops with
    | (pre, suf) => match Q6n pre with
     | true => match Qax ops ops.length with
      | (p, q) => match Nat.blt p pre.length with
       | true => match ops.drop p with
        | c0 :: suf2 => match Q9k ops p (q - p - 1) c0 suf2 with
         | true => Qv (Qq kn Gl N d β) (Vy none kn (Qq kn Gl N d PV) (Qq kn Gl N d AV) (Qq kn Gl N d (AV × List AObj))) (fun tm H => Qp (Qq kn Gl N d β) k (c0 :: suf2) tm H) (ops.take p) tm H 0 []
         | false => Qv (Qq kn Gl N d β) (Vy none kn (Qq kn Gl N d PV) (Qq kn Gl N d AV) (Qq kn Gl N d (AV × List AObj))) (fun tm H => Qp (Qq kn Gl N d β) k suf tm H) pre tm H 0 []
        | [] => Qv (Qq kn Gl N d β) (Vy none kn (Qq kn Gl N d PV) (Qq kn Gl N d AV) (Qq kn Gl N d (AV × List AObj))) (fun tm H => Qp (Qq kn Gl N d β) k suf tm H) pre tm H 0 []
       | false => Qv (Qq kn Gl N d β) (Vy none kn (Qq kn Gl N d PV) (Qq kn Gl N d AV) (Qq kn Gl N d (AV × List AObj))) (fun tm H => Qp (Qq kn Gl N d β) k suf tm H) pre tm H 0 []
     | false => Qv (Qq kn Gl N d β) (Vy none kn (Qq kn Gl N d PV) (Qq kn Gl N d AV) (Qq kn Gl N d (AV × List AObj))) (fun tm H => Qp (Qq kn Gl N d β) k suf tm H) pre tm H 0 [])
section
variable {P : Program} {Gl : Nat → Option (List PV)} {kn : Know2}
theorem Zm (hkn : KnowOk2 P Gl kn) {β : Type} {EH : Env (Option (AV × List AObj))} (hEH : ∀ r, Hom EH (EP P Gl) r) {r : β} {f : Nat} {args : List AV} {H : List AObj}
  {kO : AV → List AObj → List Nat → List Nat → Option β} {kP : AV → List AObj → List Nat → List Nat → Prop} (hk : ∀ v H' R A, kO v H' R A = some r → kP v H' R A) (he : Wq none kn EH f args H kO = some r) : Z5 P Gl f args H kP := by
 unfold Wq at he;split at he
 ·rename_i h1;split at he
  ·rename_i cf hcf;split at he
   ·rename_i v obs hv;split at he
    ·rename_i h0;have hc : GC P Gl f args [] v obs := G8 (hkn.tab f cf hcf) (Y4 (hEH (v, obs)) (fun v0 H' h => by cases h; exact ⟨rfl, rfl⟩) hv)
     exact Q5b hc h0 ⟨rfl, fun i v u hv hu => by
      rw [hv] at hu; cases hu;have := RenV.same (ρ := fun i => i) (K := fun _ => False) (H := H) v
      rwa [Q28] at this⟩ h1 _ rfl rfl rfl (hk _ _ _ _ he)
    cases he
   cases he
  cases he
 cases he
theorem Vh (hkn : KnowOk2 P Gl kn) {β : Type} {EV : Env (Option PV)} (hEV : ∀ r, Hom EV (EP P Gl) r) {EA : Env (Option AV)} (hEA : ∀ r, Hom EA (EP P Gl) r) {EH : Env (Option (AV × List AObj))} (hEH : ∀ r, Hom EH (EP P Gl) r) {r : β} {f : Nat} {args : List AV} {H : List AObj}
  {kO : AV → List AObj → List Nat → List Nat → Option β} {kP : AV → List AObj → List Nat → List Nat → Prop} (hk : ∀ v H' R A, kO v H' R A = some r → kP v H' R A) (he : Vy none kn EV EA EH f args H kO = some r) : Z5 P Gl f args H kP := by
 unfold Vy at he;split at he
 ·rename_i pa h1;split at he
  ·rename_i x h2;have hp := Zd hkn (hEV x) h2;exact .inl ⟨[], [], .p x, fun s h => (by cases h), fun H2 _ => Q1j hp (Zj args pa h1) ⟨rfl, rfl⟩, hk _ _ _ _ he⟩
  exact Zm hkn hEH hk he
 split at he
 ·rename_i pa h1;split at he
  ·rename_i x h2;split at he
   ·rename_i h3;have q := Yg args pa h1;have hp := Zd hkn (hEV x) h2;exact .inl ⟨W6 H args, [], .p x, fun s h => (by cases h), fun H2 hH2 => Q1b hp ⟨q.1, fun i v x hv hx => Jm (fun a o hk ho => ⟨trivial, hH2 a hk o ho⟩) (q.2 i v x hv hx)⟩ h3 ⟨rfl, rfl⟩, hk _ _ _ _ he⟩
   refine Zk hkn hEA hk (fun hz => ?_) he;split at hz
   ·rename_i hR;have q := Yg args pa h1;have hp := Zd hkn (hEV x) h2;exact Q4w _ hp q (fun a ha => by simpa using Lw.1 hR a ha) (hk _ _ _ _ hz)
   cases hz
  exact Zk hkn hEA hk (fun h => Zm hkn hEH hk h) he
 ·split at he
  ·rename_i a rest _ _;split at he
   ·rename_i pr h1;split at he
    ·rename_i cs ha;split at he
     ·rename_i cells hc;split at he
      ·rename_i x cells' h2;have hm := Vs hkn (hEV _) h2;refine .inl ⟨[a], [(a, .cells (cells'.map .p))], .p x, fun s hs => ?_, fun H2 hH2 => ?_, hk _ _ _ _ he⟩
       ·simp at hs; subst hs; exact (La.1 ha).1
       refine Q1r hm ?_ (Zj rest pr h1) ⟨rfl, rfl⟩;rw [hH2 a (by simp) _ ha, Q2x _ _ hc]
      exact Zk hkn hEA hk (fun h => Zm hkn hEH hk h) he
     exact Zk hkn hEA hk (fun h => Zm hkn hEH hk h) he
    exact Zk hkn hEA hk (fun h => Zm hkn hEH hk h) he
   exact Zk hkn hEA hk (fun h => Zm hkn hEH hk h) he
  ·exact Zk hkn hEA hk (fun h => Zm hkn hEH hk h) he


theorem Q1u (hkn : KnowOk2 P Gl kn) (N : Nat) : ∀ (d : Nat) (β : Type) (r : β), Hom (Qq kn Gl N d β) (EP P Gl) r
 | 0, β, r => ⟨rfl, rfl, fun f a H kO kP hk he => (by simp only [Qq] at he; cases he), fun b tm H kO kP hk he => (by simp only [Qq] at he; cases he), fun a b tm H kO kP hk he => (by simp only [Qq] at he; cases he), fun b tm H kO kP hk he => (by simp only [Qq] at he; cases he)⟩
 | d + 1, β, r => by
  have ih := Q1u hkn N d;refine ⟨rfl, rfl, fun f a H kO kP hk he => ?_, fun b tm H kO kP hk he => ?_, fun a b tm H kO kP hk he => ?_, fun ops tm H kO kP hk he => ?_⟩
  ·simp only [Qq] at he;refine Q62 hkn (ih PV) hk (fun he => ?_) he
   cases ht : kn.tab f with
   | none => simp only [ht] at he; cases he
   | some cf =>
    simp only [ht] at he;exact G8 (hkn.tab f cf ht) (Y4 (ih β r) hk he)
  ·simp only [Qq] at he;exact Q2t N (Q0q (ih β r) hk N tm H he)
  ·simp only [Qq] at he;refine Q7k (Ww (ih β r) a tm H _ _ (fun e v H' hv => ?_) he)
   cases e with
   | normal => exact Ww (ih β r) b v H' kO kP hk hv
   | exit i => exact hk _ _ _ hv
   | ret => exact hk _ _ _ hv
  ·have old : Qv (Qq kn Gl N d β) (Vy none kn (Qq kn Gl N d PV) (Qq kn Gl N d AV) (Qq kn Gl N d (AV × List AObj))) (fun tm H => Qp (Qq kn Gl N d β) kO (Yq 0 ops).2 tm H) (Yq 0 ops).1 tm H 0 [] = some r →
     Q46 P Gl ops tm H kP := by
    intro he2;obtain ⟨h1, h2⟩ := Uu ops 0;rw [Mb] at h2;generalize (Yq 0 ops).1 = pre at he2 h1 h2;generalize (Yq 0 ops).2 = suf at he2 h1 h2;clear he;subst h1
    cases suf with
    | nil =>
     rw [Nj];exact Q6q (Ys (dP := Z5 P Gl) (ih β r) (fun f a H kO kP hk he => Vh hkn (ih PV) (ih AV) (ih (AV × List AObj)) hk he) hk pre tm H 0 [] he2)
    | cons c0 suf => exact Q6p h2 (Ys (dP := Z5 P Gl) (ih β r) (fun f a H kO kP hk he => Vh hkn (ih PV) (ih AV) (ih (AV × List AObj)) hk he) (fun tm' H' hv => Xq (ih β r) hk _ tm' H' hv) pre tm H 0 [] he2)
   simp only [Qq] at he;split at he
   ·split at he
    ·split at he
     ·rename_i c0 suf2 hd;split at he
      ·rename_i hb;simp only [Q9k, Lb] at hb;obtain ⟨b1, b2, b3, b4⟩ := hb;exact Q7e _ _ hd b1 b2 b3 b4 (Ys (dP := Z5 P Gl) (ih β r) (fun f a H kO kP hk he => Vh hkn (ih PV) (ih AV) (ih (AV × List AObj)) hk he) (fun tm' H' hv => Xq (ih β r) hk _ tm' H' hv) _ tm H 0 [] he)
      exact old he
     exact old he
    exact old he
   ·exact old he

theorem Q1m (hkn : KnowOk2 P Gl kn) {N d : Nat} {f : Nat} {args : List PV} {r : PV} (h : Je kn (Qq kn Gl N d PV) f args = some r) : Q63 P Gl f args r :=
 Zd hkn (Q1u hkn N d PV r) h
end
end
end Go.Av
