/- Part of the proof of CrossNames: for every input the law returns true; no condition. -/
import Derived.Test.YtnbfaogioomghaaGreatDoorAvClosed4
import Derived.Test.YtnbfaogioomghaaGreatDoorAvGc
import Derived.Test.YtnbfaogioomghaaGreatDoorAvDrawt
import Derived.Test.YtnbfaogioomghaaGreatDoorAvAbb
namespace Go.Av
noncomputable section
def Q8f : List COper → Nat × Bool
 | [] => (0, true)
 | c :: r => match Q8f r with
  | (0, true) => match Vs c with
   | true => (0, true)
   | false => (1, false)
  | (n, _) => (n + 1, false)
def Qir (q : Nat) (c : COper) : Bool := Nat.beq (c.bef % 2 ^ q) (2 ^ q - 1)
def Qhg (cs : List COper) : Nat → Nat → Nat
 | 0, q => q
 | n + 1, q => match (cs.drop q).all (Qir q) with
  | true => q
  | false => Qhg cs n (q + 1)
def Qhb (cs : List COper) (q : Nat) : Nat → Nat → Nat
 | 0, p => p
 | n + 1, p => match Q3d p ((cs.drop p).take (q - p)) with
  | true => p
  | false => Qhb cs q n (p + 1)
def Qj4 (cs : List COper) (n : Nat) : Nat × Nat := match Qhg cs n (Q8f cs).1 with
 | q => (Qhb cs q n 0, q)
def Qb9 : List COper → Bool
 | [] => false
 | c :: r => match c.op.isCall with
  | true => true
  | false => Qb9 r
def Qh8 (cs : List COper) (p m : Nat) (c0 : COper) (suf : List COper) : Bool :=
 Nat.ble m suf.length && (Q3d (cs.take p).length ((c0 :: suf).take (m + 1)) && (((c0 :: suf).drop (m + 1)).all Vs && ((c0 :: suf).drop (m + 1)).all (fun c => Nat.beq (c.bef % 2 ^ ((cs.take p).length + (m + 1))) (2 ^ ((cs.take p).length + (m + 1)) - 1))))
def Js {α : Type} (fail : α) (kn : Know2) (EH : Env (Option (AV × List AObj))) (f : Nat) (args : List AV) (H : List AObj) (k : AV → List AObj → List Nat → List Nat → α) : α := match refsLt.refsLts 0 args with
 | true => match kn.tab f with
  | some cf => match W6 EH cf args [] (fun v H' => some (v, H')) with
   | some (r, obs) => match Nat.ble 1 obs.length with
    | true => k (Vh (fun j => H.length + j) r) (H ++ obs.map (Q3a (fun j => H.length + j))) [] (List.range' H.length obs.length)
    | false => fail
   | none => fail
  | none => fail
 | false => fail
def Qc4 {α : Type} (fail : α) (kn : Know2) (EV : Env (Option PV)) (EA : Env (Option AV)) (EH : Env (Option (AV × List AObj))) (f : Nat) (args : List AV) (H : List AObj) (k : AV → List AObj → List Nat → List Nat → α) : α :=
 match AV.toPVs args with
 | some pa => match Jo kn EV f pa with
  | some r => k (.p r) H [] []
  | none => Js fail kn EH f args H k
 | none => match Q2l H args with
  | some pa => match Jo kn EV f pa with
   | some r => match Vu r with
    | true => k (.p r) H (Xv H args) []
    | false => Wo fail (fun _ => match (Xv H args).all (fun a => Nat.blt a H.length) with
     | true => k (.p r) (Xn (Qc9 (Xv H args)) H) (Xv H args) (Xv H args)
     | false => fail) kn EA f args H k
   | none => Wo fail (fun _ => Js fail kn EH f args H k) kn EA f args H k
  | none => match args with
  | .ptr a 0 :: rest => match AV.toPVs rest with
   | some pr => match H[a]? with
    | some (.cells cs) => match Qgq cs with
     | some cells => match Q6k kn EV f cells pr with
      | some (.tuple [r, .agg cells']) => k (.p r) (H.set a (.cells (cells'.map .p))) [a] [a]
      | _ => Wo fail (fun _ => Js fail kn EH f args H k) kn EA f args H k
     | none => Wo fail (fun _ => Js fail kn EH f args H k) kn EA f args H k
    | _ => Wo fail (fun _ => Js fail kn EH f args H k) kn EA f args H k
   | none => Wo fail (fun _ => Js fail kn EH f args H k) kn EA f args H k
  | _ => Wo fail (fun _ => Js fail kn EH f args H k) kn EA f args H k


section
variable {P : Program} {Gl : Nat → Option (List PV)} {kn : Know2}
theorem Xd (hkn : KnowOk2 P Gl kn) {β : Type} {EH : Env (Option (AV × List AObj))} (hEH : ∀ r, Hom EH (EP P Gl) r) {r : β} {f : Nat} {args : List AV} {H : List AObj}
  {kO : AV → List AObj → List Nat → List Nat → Option β} {kP : AV → List AObj → List Nat → List Nat → Prop} (hk : ∀ v H' R A, kO v H' R A = some r → kP v H' R A) (he : Js none kn EH f args H kO = some r) : Z6 P Gl f args H kP := by
 unfold Js at he;split at he
 ·rename_i h1;split at he
  ·rename_i cf hcf;split at he
   ·rename_i v obs hv;split at he
    ·rename_i h0;have hc : GC P Gl f args [] v obs := Q10 (hkn.tab f cf hcf) (Xz (hEH (v, obs)) (fun v0 H' h => by cases h; exact ⟨rfl, rfl⟩) hv)
     exact Qc1 hc h0 ⟨rfl, fun i v u hv hu => by
      rw [hv] at hu; cases hu;have := RenV.same (ρ := fun i => i) (K := fun _ => False) (H := H) v
      rwa [Q56] at this⟩ h1 _ rfl rfl rfl (hk _ _ _ _ he)
    cases he
   cases he
  cases he
 cases he
theorem Q9q (hkn : KnowOk2 P Gl kn) {β : Type} {EV : Env (Option PV)} (hEV : ∀ r, Hom EV (EP P Gl) r) {EA : Env (Option AV)} (hEA : ∀ r, Hom EA (EP P Gl) r) {EH : Env (Option (AV × List AObj))} (hEH : ∀ r, Hom EH (EP P Gl) r) {r : β} {f : Nat} {args : List AV} {H : List AObj}
  {kO : AV → List AObj → List Nat → List Nat → Option β} {kP : AV → List AObj → List Nat → List Nat → Prop} (hk : ∀ v H' R A, kO v H' R A = some r → kP v H' R A) (he : Qc4 none kn EV EA EH f args H kO = some r) : Z6 P Gl f args H kP := by
 unfold Qc4 at he;split at he
 ·rename_i pa h1;split at he
  ·rename_i x h2;have hp := Zg hkn (hEV x) h2;exact .inl ⟨[], [], .p x, fun s h => (by cases h), fun H2 _ => Y1 hp (Yp args pa h1) ⟨rfl, rfl⟩, hk _ _ _ _ he⟩
  exact Xd hkn hEH hk he
 split at he
 ·rename_i pa h1;split at he
  ·rename_i x h2;split at he
   ·rename_i h3;have q := Xe args pa h1;have hp := Zg hkn (hEV x) h2;exact .inl ⟨Xv H args, [], .p x, fun s h => (by cases h), fun H2 hH2 => Q00 hp ⟨q.1, fun i v x hv hx => Q1w (fun a o hk ho => ⟨trivial, hH2 a hk o ho⟩) (q.2 i v x hv hx)⟩ h3 ⟨rfl, rfl⟩, hk _ _ _ _ he⟩
   refine Z8 hkn hEA hk (fun hz => ?_) he;split at hz
   ·rename_i hR;have q := Xe args pa h1;have hp := Zg hkn (hEV x) h2;exact Q0v _ hp q (fun a ha => by simpa using Lp.1 hR a ha) (hk _ _ _ _ hz)
   cases hz
  exact Z8 hkn hEA hk (fun h => Xd hkn hEH hk h) he
 ·split at he
  ·rename_i a rest _ _;split at he
   ·rename_i pr h1;split at he
    ·rename_i cs ha;split at he
     ·rename_i cells hc;split at he
      ·rename_i x cells' h2;have hm := Uk hkn (hEV _) h2;refine .inl ⟨[a], [(a, .cells (cells'.map .p))], .p x, fun s hs => ?_, fun H2 hH2 => ?_, hk _ _ _ _ he⟩
       ·simp at hs; subst hs; exact (La.1 ha).1
       refine Q22 hm ?_ (Yp rest pr h1) ⟨rfl, rfl⟩;rw [hH2 a (by simp) _ ha, Q51 _ _ hc]
      exact Z8 hkn hEA hk (fun h => Xd hkn hEH hk h) he
     exact Z8 hkn hEA hk (fun h => Xd hkn hEH hk h) he
    exact Z8 hkn hEA hk (fun h => Xd hkn hEH hk h) he
   exact Z8 hkn hEA hk (fun h => Xd hkn hEH hk h) he
  ·exact Z8 hkn hEA hk (fun h => Xd hkn hEH hk h) he


end
end
end Go.Av
