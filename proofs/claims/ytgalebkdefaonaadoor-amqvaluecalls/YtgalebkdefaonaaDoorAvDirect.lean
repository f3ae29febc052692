/- An abstract machine for the modelled code, and what its runs say of real calls. Part of a proof of a given statement: for every input the law returns true and the arguments read as before; no condition beyond the given row. -/
import Derived.Test.YtgalebkdefaonaaDoorAvBase
namespace Go.Av
noncomputable section
universe u
def plc (hp : List AObj) (na : Nat) (o : AObj) : List AObj := if na = hp.length then hp ++ [o] else hp.set na o
theorem plc_get {H : List AObj} {na : Nat} (h : na ≤ H.length) (o : AObj) (x : Nat) : (plc H na o)[x]? = if x = na then some o else H[x]? := by
 unfold plc
 by_cases hn : na = H.length
 ·subst hn
  rw [if_pos rfl]
  by_cases hx : x = H.length
  ·subst hx; simp
  ·rw [if_neg hx]
   by_cases hlt : x < H.length
   ·rw [List.getElem?_append_left hlt]
   ·rw [List.getElem?_eq_none (by simp; omega), List.getElem?_eq_none (by omega)]
 ·rw [if_neg hn]
  by_cases hx : x = na
  ·subst hx; rw [if_pos rfl, List.getElem?_set_self (by omega)]
  ·rw [if_neg hx, List.getElem?_set_ne (fun e => hx e.symm)]
theorem plc_len {H : List AObj} {na : Nat} (o : AObj) : H.length ≤ (plc H na o).length ∧ (na ≤ H.length → na < (plc H na o).length) := by
 unfold plc
 split <;> simp <;> omega

section
variable {α : Type u} (E : Env α)

def evOpd (tm : List AV) : Opd → AV
 | .t i => tm.getD i .any
 | .c v => .p v
 | .g i => .gptr i 0
 | .f i => .p (.func (.func i) [] [])

theorem nthK_eq : ∀ (l : List AV) (i : Nat) (k : AV → α), nthK l i k = k (l.getD i .any)
 | [], i, k => by show k .any = _; simp
 | v :: vs, 0, k => by show k v = _; simp
 | v :: vs, n + 1, k => by show nthK vs n k = _; rw [nthK_eq vs n k]; simp
theorem updK_eq : ∀ (l : List AV) (i : Nat) (x : AV) (k : List AV → α), updK l i x k = k (l.set i x)
 | [], i, x, k => by show k [] = _; simp
 | v :: vs, 0, x, k => by show k (x :: vs) = _; simp
 | v :: vs, n + 1, x, k => by show updK vs n x (fun vs => k (v :: vs)) = _; rw [updK_eq vs n x]; simp
theorem takeK_eq {β : Type} : ∀ (n : Nat) (l : List β) (k : List β → α), takeK n l k = k (l.take n)
 | 0, l, k => by show k [] = _; simp
 | n + 1, [], k => by show k [] = _; simp
 | n + 1, v :: vs, k => by show takeK n vs (fun vs => k (v :: vs)) = _; rw [takeK_eq n vs]; simp
theorem dropK_eq {β : Type} : ∀ (n : Nat) (l : List β) (k : List β → α), dropK n l k = k (l.drop n)
 | 0, l, k => by show k l = _; simp
 | n + 1, [], k => by show k [] = _; simp
 | n + 1, v :: vs, k => by show dropK n vs k = _; rw [dropK_eq n vs]; simp
theorem appK_eq {β : Type} : ∀ (a b : List β) (k : List β → α), appK a b k = k (a ++ b)
 | [], b, k => by show k b = _; simp
 | v :: vs, b, k => by show appK vs b (fun r => k (v :: r)) = _; rw [appK_eq vs]; simp
theorem mapK_eq {β γ : Type} (f : β → γ) : ∀ (a : List β) (k : List γ → α), mapK f a k = k (a.map f)
 | [], k => by show k [] = _; simp
 | v :: vs, k => by show mapK f vs (fun r => k (f v :: r)) = _; rw [mapK_eq f vs]; simp
theorem setK_eq : ∀ (l : List AObj) (i : Nat) (x : AObj) (k : List AObj → α), setK l i x k = k (l.set i x)
 | [], i, x, k => by show k [] = _; simp
 | v :: vs, 0, x, k => by show k (x :: vs) = _; simp
 | v :: vs, n + 1, x, k => by show setK vs n x (fun vs => k (v :: vs)) = _; rw [setK_eq vs n x]; simp
theorem objK_eq : ∀ (l : List AObj) (i : Nat) (k : AObj → α), objK E l i k = (match l[i]? with
  | some o => k o
  | none => E.fail)
 | [], i, k => by show E.fail = _; simp
 | v :: vs, 0, k => by show k v = _; simp
 | v :: vs, n + 1, k => by show objK E vs n k = _; rw [objK_eq vs n k]; simp
theorem replK_eq {β : Type} (x : β) : ∀ (n : Nat) (k : List β → α), replK x n k = k (List.replicate n x)
 | 0, k => by show k [] = _; simp
 | n + 1, k => by show replK x n (fun r => k (x :: r)) = _; rw [replK_eq x n]; simp [List.replicate_succ]
theorem opdK_eq (tm : List AV) (k : AV → α) (x : Opd) : opdK tm k x = k (evOpd tm x) := by
 cases x <;> simp [opdK, evOpd, nthK_eq]
theorem opdsK_eq (tm : List AV) : ∀ (l : List Opd) (k : List AV → α), opdsK tm l k = k (l.map (evOpd tm))
 | [], k => by simp [opdsK_nil]
 | x :: r, k => by simp [opdsK_cons, opdK_eq, opdsK_eq tm r]
theorem opdO_eq (tm : List AV) (k : Option AV → α) (x : Option Opd) : opdO tm k x = k (x.map (evOpd tm)) := by
 cases x <;> simp [opdO, opdK_eq]

theorem cellsK_eq (k : List AV → α) (v : AV) : cellsK E k v = (match v.cells? with
  | some cs => k cs
  | none => E.fail) := by
 unfold cellsK AV.cells?
 split <;> simp_all [mapK_eq]
theorem aggK_eq (k : List AV → α) (v : AV) : aggK E k v = (match v.aggs? with
  | some cs => k cs
  | none => E.fail) := by
 unfold aggK AV.aggs?
 split <;> simp_all [mapK_eq]
end
end
end Go.Av
