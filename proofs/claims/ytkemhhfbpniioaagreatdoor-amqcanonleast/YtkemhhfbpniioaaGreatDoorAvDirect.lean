/- An abstract machine for the modelled code, and what its runs say of real calls. Part of a proof of a given statement: for every input the law returns true and the arguments read as before; no condition beyond the given row. -/
import Derived.Test.YtkemhhfbpniioaaGreatDoorAvBase
namespace Go.Av
noncomputable section
universe u
def plc (hp : List AObj) (na : Nat) (o : AObj) : List AObj := if na = hp.length then hp ++ [o] else hp.set na o
theorem Q2l {H : List AObj} {na : Nat} (h : na ≤ H.length) (o : AObj) (x : Nat) : (plc H na o)[x]? = if x = na then some o else H[x]? := by
 unfold plc
 by_cases hn : na = H.length
 ·subst hn
  rw [if_pos rfl]
  by_cases hx : x = H.length
  ·subst hx; simp
  ·rw [if_neg hx]
   by_cases hlt : x < H.length
   ·rw [List.getElem?_append_left hlt]
   ·rw [List.getElem?_eq_none (by simp; omega), List.getElem?_eq_none (by omega)]
 ·rw [if_neg hn]
  by_cases hx : x = na
  ·subst hx; rw [if_pos rfl, List.getElem?_set_self (by omega)]
  ·rw [if_neg hx, List.getElem?_set_ne (fun e => hx e.symm)]
theorem Q0g {H : List AObj} {na : Nat} (o : AObj) : H.length ≤ (plc H na o).length ∧ (na ≤ H.length → na < (plc H na o).length) := by
 unfold plc
 split <;> simp <;> omega

section
variable {α : Type u} (E : Env α)

def Q8 (tm : List AV) : Opd → AV
 | .t i => tm.getD i .any
 | .c v => .p v
 | .g i => .gptr i 0
 | .f i => .p (.func (.func i) [] [])

theorem Q0q : ∀ (l : List AV) (i : Nat) (k : AV → α), Qm9 l i k = k (l.getD i .any)
 | [], i, k => by show k .any = _; simp
 | v :: vs, 0, k => by show k v = _; simp
 | v :: vs, n + 1, k => by show Qm9 vs n k = _; rw [Q0q vs n k]; simp
theorem Q4p : ∀ (l : List AV) (i : Nat) (x : AV) (k : List AV → α), Qn4 l i x k = k (l.set i x)
 | [], i, x, k => by show k [] = _; simp
 | v :: vs, 0, x, k => by show k (x :: vs) = _; simp
 | v :: vs, n + 1, x, k => by show Qn4 vs n x (fun vs => k (v :: vs)) = _; rw [Q4p vs n x]; simp
theorem Q5x {β : Type} : ∀ (n : Nat) (l : List β) (k : List β → α), Qiq n l k = k (l.take n)
 | 0, l, k => by show k [] = _; simp
 | n + 1, [], k => by show k [] = _; simp
 | n + 1, v :: vs, k => by show Qiq n vs (fun vs => k (v :: vs)) = _; rw [Q5x n vs]; simp
theorem Jf {β : Type} : ∀ (n : Nat) (l : List β) (k : List β → α), Q6z n l k = k (l.drop n)
 | 0, l, k => by show k l = _; simp
 | n + 1, [], k => by show k [] = _; simp
 | n + 1, v :: vs, k => by show Q6z n vs k = _; rw [Jf n vs]; simp
theorem Jv {β : Type} : ∀ (a b : List β) (k : List β → α), Qe6 a b k = k (a ++ b)
 | [], b, k => by show k b = _; simp
 | v :: vs, b, k => by show Qe6 vs b (fun r => k (v :: r)) = _; rw [Jv vs]; simp
theorem Vf {β γ : Type} (f : β → γ) : ∀ (a : List β) (k : List γ → α), Q7v f a k = k (a.map f)
 | [], k => by show k [] = _; simp
 | v :: vs, k => by show Q7v f vs (fun r => k (f v :: r)) = _; rw [Vf f vs]; simp
theorem Q6y : ∀ (l : List AObj) (i : Nat) (x : AObj) (k : List AObj → α), Qog l i x k = k (l.set i x)
 | [], i, x, k => by show k [] = _; simp
 | v :: vs, 0, x, k => by show k (x :: vs) = _; simp
 | v :: vs, n + 1, x, k => by show Qog vs n x (fun vs => k (v :: vs)) = _; rw [Q6y vs n x]; simp
theorem Gj : ∀ (l : List AObj) (i : Nat) (k : AObj → α), Qgf E l i k = (match l[i]? with
  | some o => k o
  | none => E.fail)
 | [], i, k => by show E.fail = _; simp
 | v :: vs, 0, k => by show k v = _; simp
 | v :: vs, n + 1, k => by show Qgf E vs n k = _; rw [Gj vs n k]; simp
theorem Qc2 {β : Type} (x : β) : ∀ (n : Nat) (k : List β → α), Qsa x n k = k (List.replicate n x)
 | 0, k => by show k [] = _; simp
 | n + 1, k => by show Qsa x n (fun r => k (x :: r)) = _; rw [Qc2 x n]; simp [List.replicate_succ]
theorem Zj (tm : List AV) (k : AV → α) (x : Opd) : Vt tm k x = k (Q8 tm x) := by
 cases x <;> simp [Vt, Q8, Q0q]
theorem J2 (tm : List AV) : ∀ (l : List Opd) (k : List AV → α), Qap tm l k = k (l.map (Q8 tm))
 | [], k => by simp [Qmv]
 | x :: r, k => by simp [Qin, Zj, J2 tm r]
theorem Qg2 (tm : List AV) (k : Option AV → α) (x : Option Opd) : Qnh tm k x = k (x.map (Q8 tm)) := by
 cases x <;> simp [Qnh, Zj]

theorem Qa3 (k : List AV → α) (v : AV) : Qay E k v = (match v.cells? with
  | some cs => k cs
  | none => E.fail) := by
 unfold Qay AV.cells?
 split <;> simp_all [Vf]
theorem Qke (k : List AV → α) (v : AV) : Qsy E k v = (match v.aggs? with
  | some cs => k cs
  | none => E.fail) := by
 unfold Qsy AV.aggs?
 split <;> simp_all [Vf]
end
end
end Go.Av
