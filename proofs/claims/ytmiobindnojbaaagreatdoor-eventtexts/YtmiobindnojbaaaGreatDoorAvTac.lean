/- An abstract machine for the modelled code, and what its runs say of real calls. Part of a proof of a given statement: for every input the law returns true and the arguments read as before; no condition beyond the given row. -/
import Derived.Test.YtmiobindnojbaaaGreatDoorAvCtr
import Derived.Test.YtmiobindnojbaaaGreatDoorAvClosed4
namespace Go.Av
noncomputable section
universe u
theorem cF {o : Cmp} {x y : Int} {b : Bool} (h : Qa o x y = b) : Qjn o x y = b := by rw [cmpX_eq]; exact h
theorem Env.c1 {α : Type u} (E : Env α) : E.cmp.1 = Qa := E.cmp.2
section
variable {P : Program} {Gl : Nat → Option (List PV)}
theorem ifT {b : Bool} {X Y : Prop} (h : b = true) (hx : X) : @Bool.rec (fun _ => Prop) Y X b := by subst h; exact hx
theorem ifF {b : Bool} {X Y : Prop} (h : b = false) (hy : Y) : @Bool.rec (fun _ => Prop) Y X b := by subst h; exact hy
theorem Q4t {b : Bool} {X : Prop} (h : b = true) (h1 : X) : @Bool.rec (fun _ => Prop) (EP P Gl).fail X b := by subst h; exact h1
theorem Qmg {β : Type} {l : List β} {i : Int} {k : β → Prop} {x : β} (h : idx l i = some x) (hk : k x) : Qgj (EP P Gl) l i k := by unfold Qgj; rw [h]; exact hk
theorem V1 {f : Nat} {args : List AV} {pargs : List PV} {r : PV} {H : List AObj} {k : AV → List AObj → List Nat → List Nat → Prop} (hp : Xl P Gl f pargs r) (hf : FrzL (fun _ => False) H args pargs) (hk : k (.p r) H [] []) : Wa P Gl f args H k :=
 ⟨[], [], .p r, fun s h => (by cases h), fun _ _ => Wd hp (hf.K (fun _ _ h _ => h.elim)) ⟨rfl, rfl⟩, hk⟩
end
end
end Go.Av
