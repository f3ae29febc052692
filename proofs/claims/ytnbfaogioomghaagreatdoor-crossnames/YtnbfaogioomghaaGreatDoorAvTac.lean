/- Part of the proof of CrossNames: for every input the law returns true; no condition. -/
import Derived.Test.YtnbfaogioomghaaGreatDoorAvCtr
import Derived.Test.YtnbfaogioomghaaGreatDoorAvClosed4
namespace Go.Av
noncomputable section
universe u
theorem cF {o : Cmp} {x y : Int} {b : Bool} (h : Qi o x y = b) : Qhw o x y = b := by rw [cmpX_eq]; exact h
theorem Env.c1 {α : Type u} (E : Env α) : E.cmp.1 = Qi := E.cmp.2
section
variable {P : Program} {Gl : Nat → Option (List PV)}
theorem ifP {b : Bool} {X Y : Prop} (h1 : b = true → X) (h2 : b = false → Y) : @Bool.rec (fun _ => Prop) Y X b := by
 cases b
 ·exact h2 rfl
 exact h1 rfl
theorem ifT {b : Bool} {X Y : Prop} (h : b = true) (hx : X) : @Bool.rec (fun _ => Prop) Y X b := by subst h; exact hx
theorem ifF {b : Bool} {X Y : Prop} (h : b = false) (hy : Y) : @Bool.rec (fun _ => Prop) Y X b := by subst h; exact hy
theorem Q1i {K : Nat → Prop} {H : List AObj} {x y : PV} (h : x = y) : Frz K H (.p x) y := by subst h; exact .p _
theorem Qfj {b : Bool} {X : Prop} (h : b = true) (h1 : X) : @Bool.rec (fun _ => Prop) (EP P Gl).fail X b := by subst h; exact h1
theorem Qgs {β : Type} {l : List β} {i : Int} {k : β → Prop} {x : β} (h : idx l i = some x) (hk : k x) : Qd3 (EP P Gl) l i k := by unfold Qd3; rw [h]; exact hk
theorem Qac {f : Nat} {args : List AV} {pargs : List PV} {r : PV} {H : List AObj} {k : AV → List AObj → List Nat → List Nat → Prop} (hp : Pure P Gl f pargs r) (hf : FrzL (fun _ => False) H args pargs) (hk : k (.p r) H [] []) : Z6 P Gl f args H k :=
 .inl ⟨[], [], .p r, fun s h => (by cases h), fun _ _ => Y1 hp (hf.K (fun _ _ h _ => h.elim)) ⟨rfl, rfl⟩, hk⟩
end
end
end Go.Av
