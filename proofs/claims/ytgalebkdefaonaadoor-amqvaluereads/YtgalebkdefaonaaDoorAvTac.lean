/- An abstract machine for the modelled code, and what its runs say of real calls. Part of a proof of a given statement: for every input the law returns true and the arguments read as before; no condition beyond the given row. -/
import Derived.Test.YtgalebkdefaonaaDoorAvCtr
import Derived.Test.YtgalebkdefaonaaDoorAvClosed4
namespace Go.Av
noncomputable section
section
variable {P : Program} {Gl : Nat → Option (List PV)}
/-- conclusions are in the form that is stuck: so nothing is compared with an ifB whose test is closed -/
theorem ifP {b : Bool} {X Y : Prop} (h1 : b = true → X) (h2 : b = false → Y) : @Bool.rec (fun _ => Prop) Y X b := by
  cases b
  · exact h2 rfl
  · exact h1 rfl
theorem ifT {b : Bool} {X Y : Prop} (h : b = true) (hx : X) : @Bool.rec (fun _ => Prop) Y X b := by subst h; exact hx
theorem ifF {b : Bool} {X Y : Prop} (h : b = false) (hy : Y) : @Bool.rec (fun _ => Prop) Y X b := by subst h; exact hy
theorem frz_p {K : Nat → Prop} {H : List AObj} {x y : PV} (h : x = y) : Frz K H (.p x) y := by subst h; exact .p _
theorem chkP {b : Bool} {X : Prop} (h : b = true) (h1 : X) : @Bool.rec (fun _ => Prop) (EP P Gl).fail X b := by subst h; exact h1
/-- a text that is cut out, by its own name -/
theorem chkS {b : Bool} {tm : List AV} {d : Option Nat} {t q : List UInt8} {k : List AV → Prop} (h : b = true) (e : t = q) (hk : put tm d (.p (.str q)) k) : @Bool.rec (fun _ => Prop) (EP P Gl).fail (put tm d (.p (.str t)) k) b := by subst h; subst e; exact hk
theorem pure_eq {f : Nat} {args : List PV} {r r' : PV} (h : Pure P Gl f args r) (e : r = r') : Pure P Gl f args r' := e ▸ h
theorem idxP {β : Type} {l : List β} {i : Int} {k : β → Prop} {x : β} (h : idx l i = some x) (hk : k x) : idxK (EP P Gl) l i k := by unfold idxK; rw [h]; exact hk
theorem dropP {β : Type} {n : Nat} {l : List β} {k : List β → Prop} (h : k (l.drop n)) : dropK n l k := by rw [dropK_eq]; exact h
theorem takeP {β : Type} {n : Nat} {l : List β} {k : List β → Prop} (h : k (l.take n)) : takeK n l k := by rw [takeK_eq]; exact h
theorem mapP {β γ : Type} {f : β → γ} {l : List β} {k : List γ → Prop} (h : k (l.map f)) : mapK f l k := by rw [mapK_eq]; exact h
theorem appP {β : Type} {l m : List β} {k : List β → Prop} (h : k (l ++ m)) : appK l m k := by rw [appK_eq]; exact h
theorem setP {l : List AObj} {i : Nat} {x : AObj} {k : List AObj → Prop} (h : k (l.set i x)) : setK l i x k := by rw [setK_eq]; exact h
/-- one cell of a variable of the program -/
theorem globP {off : Nat} {cs : List PV} {k : AV → Prop} {x : PV} (hx : cs[off]? = some x) (h : k (.p x)) :
    dropK off cs (fun cs => mapK .p cs (fun cs => takeN (EP P Gl) 1 cs (fun cs => ofCellsK (EP P Gl) false cs k))) := by
  rw [dropK_eq, mapK_eq, takeN_eq]
  have hlt := (List.getElem?_eq_some_iff.1 hx).1
  have e : cs.drop off = x :: cs.drop (off + 1) := by
    rw [List.drop_eq_getElem_cons hlt]
    congr 1
    exact (List.getElem?_eq_some_iff.1 hx).2
  rw [e]
  simpa [sTake, ofCellsK] using h
/-- two cells of a variable of the program -/
theorem globP2 {off : Nat} {cs : List PV} {k : AV → Prop} {x y : PV} (hx : cs[off]? = some x) (hy : cs[off + 1]? = some y) (h : k (.agg [.p x, .p y])) :
    dropK off cs (fun cs => mapK .p cs (fun cs => takeN (EP P Gl) 2 cs (fun cs => ofCellsK (EP P Gl) true cs k))) := by
  rw [dropK_eq, mapK_eq, takeN_eq]
  have hlt := (List.getElem?_eq_some_iff.1 hx).1
  have hlt2 := (List.getElem?_eq_some_iff.1 hy).1
  have e : cs.drop off = x :: y :: cs.drop (off + 2) := by
    rw [List.drop_eq_getElem_cons hlt, List.drop_eq_getElem_cons hlt2]
    rw [(List.getElem?_eq_some_iff.1 hx).2, (List.getElem?_eq_some_iff.1 hy).2]
  rw [e]
  simpa [sTake, ofCellsK] using h
theorem dcall_pure {f : Nat} {args : List AV} {pargs : List PV} {r : PV} {H : List AObj} {k : AV → List AObj → List Nat → List Nat → Prop} (hp : Pure P Gl f pargs r) (hf : FrzL (fun _ => False) H args pargs) (hk : k (.p r) H [] []) : dcallP P Gl f args H k :=
  ⟨[], [], .p r, fun s h => (by cases h), fun _ _ => call_pure hp (hf.K (fun _ _ h _ => h.elim)) ⟨rfl, rfl⟩, hk⟩
end
end
end Go.Av
