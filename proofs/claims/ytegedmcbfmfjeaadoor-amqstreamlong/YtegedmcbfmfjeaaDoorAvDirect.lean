/- An abstract machine for the modelled code, and what its runs say of real calls. Part of a proof of a given statement: for every input the law returns true and the arguments read as before; no condition beyond the given row. -/
import Derived.Test.YtegedmcbfmfjeaaDoorAvBase
namespace Go.Av
noncomputable section
universe u
def plc (hp : List AObj) (na : Nat) (o : AObj) : List AObj := if na = hp.length then hp ++ [o] else hp.set na o
theorem J9 {H : List AObj} {na : Nat} (h : na ≤ H.length) (o : AObj) (x : Nat) : (plc H na o)[x]? = if x = na then some o else H[x]? := by
 unfold plc
 by_cases hn : na = H.length
 ·subst hn
  rw [if_pos rfl]
  by_cases hx : x = H.length
  ·subst hx; simp
  ·rw [if_neg hx]
   by_cases hlt : x < H.length
   ·rw [List.getElem?_append_left hlt]
   ·rw [List.getElem?_eq_none (by simp; omega), List.getElem?_eq_none (by omega)]
 ·rw [if_neg hn]
  by_cases hx : x = na
  ·subst hx; rw [if_pos rfl, List.getElem?_set_self (by omega)]
  ·rw [if_neg hx, List.getElem?_set_ne (fun e => hx e.symm)]
theorem Vz {H : List AObj} {na : Nat} (o : AObj) : H.length ≤ (plc H na o).length ∧ (na ≤ H.length → na < (plc H na o).length) := by
 unfold plc
 split <;> simp <;> omega

section
variable {α : Type u} (E : Env α)

def Q4 (tm : List AV) : Opd → AV
 | .t i => tm.getD i .any
 | .c v => .p v
 | .g i => .gptr i 0
 | .f i => .p (.func (.func i) [] [])

theorem Vc : ∀ (l : List AV) (i : Nat) (k : AV → α), Qe7 l i k = k (l.getD i .any)
 | [], i, k => by show k .any = _; simp
 | v :: vs, 0, k => by show k v = _; simp
 | v :: vs, n + 1, k => by show Qe7 vs n k = _; rw [Vc vs n k]; simp
theorem Jk : ∀ (l : List AV) (i : Nat) (x : AV) (k : List AV → α), Qf5 l i x k = k (l.set i x)
 | [], i, x, k => by show k [] = _; simp
 | v :: vs, 0, x, k => by show k (x :: vs) = _; simp
 | v :: vs, n + 1, x, k => by show Qf5 vs n x (fun vs => k (v :: vs)) = _; rw [Jk vs n x]; simp
theorem G6 {β : Type} : ∀ (n : Nat) (l : List β) (k : List β → α), Q9p n l k = k (l.take n)
 | 0, l, k => by show k [] = _; simp
 | n + 1, [], k => by show k [] = _; simp
 | n + 1, v :: vs, k => by show Q9p n vs (fun vs => k (v :: vs)) = _; rw [G6 n vs]; simp
theorem Xo {β : Type} : ∀ (n : Nat) (l : List β) (k : List β → α), Q09 n l k = k (l.drop n)
 | 0, l, k => by show k l = _; simp
 | n + 1, [], k => by show k [] = _; simp
 | n + 1, v :: vs, k => by show Q09 n vs k = _; rw [Xo n vs]; simp
theorem Wp {β : Type} : ∀ (a b : List β) (k : List β → α), Q7u a b k = k (a ++ b)
 | [], b, k => by show k b = _; simp
 | v :: vs, b, k => by show Q7u vs b (fun r => k (v :: r)) = _; rw [Wp vs]; simp
theorem Yo {β γ : Type} (f : β → γ) : ∀ (a : List β) (k : List γ → α), Q2d f a k = k (a.map f)
 | [], k => by show k [] = _; simp
 | v :: vs, k => by show Q2d f vs (fun r => k (f v :: r)) = _; rw [Yo f vs]; simp
theorem Q1v : ∀ (l : List AObj) (i : Nat) (x : AObj) (k : List AObj → α), Qfy l i x k = k (l.set i x)
 | [], i, x, k => by show k [] = _; simp
 | v :: vs, 0, x, k => by show k (x :: vs) = _; simp
 | v :: vs, n + 1, x, k => by show Qfy vs n x (fun vs => k (v :: vs)) = _; rw [Q1v vs n x]; simp
theorem Wz : ∀ (l : List AObj) (i : Nat) (k : AObj → α), Q9b E l i k = (match l[i]? with
  | some o => k o
  | none => E.fail)
 | [], i, k => by show E.fail = _; simp
 | v :: vs, 0, k => by show k v = _; simp
 | v :: vs, n + 1, k => by show Q9b E vs n k = _; rw [Wz vs n k]; simp
theorem Q5z {β : Type} (x : β) : ∀ (n : Nat) (k : List β → α), Qi9 x n k = k (List.replicate n x)
 | 0, k => by show k [] = _; simp
 | n + 1, k => by show Qi9 x n (fun r => k (x :: r)) = _; rw [Q5z x n]; simp [List.replicate_succ]
theorem Qy (tm : List AV) (k : AV → α) (x : Opd) : Yy tm k x = k (Q4 tm x) := by
 cases x <;> simp [Yy, Q4, Vc]
theorem Xz (tm : List AV) : ∀ (l : List Opd) (k : List AV → α), Q4z tm l k = k (l.map (Q4 tm))
 | [], k => by simp [Qdu]
 | x :: r, k => by simp [Qbl, Qy, Xz tm r]
theorem Q9s (tm : List AV) (k : Option AV → α) (x : Option Opd) : Qfe tm k x = k (x.map (Q4 tm)) := by
 cases x <;> simp [Qfe, Qy]

theorem Q3e (k : List AV → α) (v : AV) : Q5n E k v = (match v.cells? with
  | some cs => k cs
  | none => E.fail) := by
 unfold Q5n AV.cells?
 split <;> simp_all [Yo]
theorem Qf6 (k : List AV → α) (v : AV) : Qk3 E k v = (match v.aggs? with
  | some cs => k cs
  | none => E.fail) := by
 unfold Qk3 AV.aggs?
 split <;> simp_all [Yo]
end
end
end Go.Av
