/- An abstract machine for the modelled code, and what its runs say of real calls. Part of a proof of a given statement: for every input the law returns true and the arguments read as before; no condition beyond the given row. -/
import Derived.Test.YtegedmcbfmfjeaaDoorAvBase
namespace Go.Av
noncomputable section
universe u
def plc (hp : List AObj) (na : Nat) (o : AObj) : List AObj := if na = hp.length then hp ++ [o] else hp.set na o
theorem Q14 {H : List AObj} {na : Nat} (h : na ≤ H.length) (o : AObj) (x : Nat) : (plc H na o)[x]? = if x = na then some o else H[x]? := by
 unfold plc
 by_cases hn : na = H.length
 ·subst hn
  rw [if_pos rfl]
  by_cases hx : x = H.length
  ·subst hx; simp
  ·rw [if_neg hx]
   by_cases hlt : x < H.length
   ·rw [List.getElem?_append_left hlt]
   ·rw [List.getElem?_eq_none (by simp; omega), List.getElem?_eq_none (by omega)]
 ·rw [if_neg hn]
  by_cases hx : x = na
  ·subst hx; rw [if_pos rfl, List.getElem?_set_self (by omega)]
  ·rw [if_neg hx, List.getElem?_set_ne (fun e => hx e.symm)]
theorem G8 {H : List AObj} {na : Nat} (o : AObj) : H.length ≤ (plc H na o).length ∧ (na ≤ H.length → na < (plc H na o).length) := by
 unfold plc
 split <;> simp <;> omega

section
variable {α : Type u} (E : Env α)

def Q3 (tm : List AV) : Opd → AV
 | .t i => tm.getD i .any
 | .c v => .p v
 | .g i => .gptr i 0
 | .f i => .p (.func (.func i) [] [])

theorem Ga : ∀ (l : List AV) (i : Nat) (k : AV → α), Qj3 l i k = k (l.getD i .any)
 | [], i, k => by show k .any = _; simp
 | v :: vs, 0, k => by show k v = _; simp
 | v :: vs, n + 1, k => by show Qj3 vs n k = _; rw [Ga vs n k]; simp
theorem Q2z : ∀ (l : List AV) (i : Nat) (x : AV) (k : List AV → α), Qjt l i x k = k (l.set i x)
 | [], i, x, k => by show k [] = _; simp
 | v :: vs, 0, x, k => by show k (x :: vs) = _; simp
 | v :: vs, n + 1, x, k => by show Qjt vs n x (fun vs => k (v :: vs)) = _; rw [Q2z vs n x]; simp
theorem Q4m {β : Type} : ∀ (n : Nat) (l : List β) (k : List β → α), Qg5 n l k = k (l.take n)
 | 0, l, k => by show k [] = _; simp
 | n + 1, [], k => by show k [] = _; simp
 | n + 1, v :: vs, k => by show Qg5 n vs (fun vs => k (v :: vs)) = _; rw [Q4m n vs]; simp
theorem U7 {β : Type} : ∀ (n : Nat) (l : List β) (k : List β → α), Q4t n l k = k (l.drop n)
 | 0, l, k => by show k l = _; simp
 | n + 1, [], k => by show k [] = _; simp
 | n + 1, v :: vs, k => by show Q4t n vs k = _; rw [U7 n vs]; simp
theorem Ut {β : Type} : ∀ (a b : List β) (k : List β → α), Qbj a b k = k (a ++ b)
 | [], b, k => by show k b = _; simp
 | v :: vs, b, k => by show Qbj vs b (fun r => k (v :: r)) = _; rw [Ut vs]; simp
theorem Wp {β γ : Type} (f : β → γ) : ∀ (a : List β) (k : List γ → α), Q61 f a k = k (a.map f)
 | [], k => by show k [] = _; simp
 | v :: vs, k => by show Q61 f vs (fun r => k (f v :: r)) = _; rw [Wp f vs]; simp
theorem Q56 : ∀ (l : List AObj) (i : Nat) (x : AObj) (k : List AObj → α), Qki l i x k = k (l.set i x)
 | [], i, x, k => by show k [] = _; simp
 | v :: vs, 0, x, k => by show k (x :: vs) = _; simp
 | v :: vs, n + 1, x, k => by show Qki vs n x (fun vs => k (v :: vs)) = _; rw [Q56 vs n x]; simp
theorem J6 : ∀ (l : List AObj) (i : Nat) (k : AObj → α), Qe5 E l i k = (match l[i]? with
  | some o => k o
  | none => E.fail)
 | [], i, k => by show E.fail = _; simp
 | v :: vs, 0, k => by show k v = _; simp
 | v :: vs, n + 1, k => by show Qe5 E vs n k = _; rw [J6 vs n k]; simp
theorem Qa2 {β : Type} (x : β) : ∀ (n : Nat) (k : List β → α), Qmn x n k = k (List.replicate n x)
 | 0, k => by show k [] = _; simp
 | n + 1, k => by show Qmn x n (fun r => k (x :: r)) = _; rw [Qa2 x n]; simp [List.replicate_succ]
theorem Z3 (tm : List AV) (k : AV → α) (x : Opd) : Wq tm k x = k (Q3 tm x) := by
 cases x <;> simp [Wq, Q3, Ga]
theorem Vx (tm : List AV) : ∀ (l : List Opd) (k : List AV → α), Q89 tm l k = k (l.map (Q3 tm))
 | [], k => by simp [Qht]
 | x :: r, k => by simp [Qgq, Z3, Vx tm r]
theorem Qd5 (tm : List AV) (k : Option AV → α) (x : Option Opd) : Qk0 tm k x = k (x.map (Q3 tm)) := by
 cases x <;> simp [Qk0, Z3]

theorem Q7s (k : List AV → α) (v : AV) : Q91 E k v = (match v.cells? with
  | some cs => k cs
  | none => E.fail) := by
 unfold Q91 AV.cells?
 split <;> simp_all [Wp]
theorem Qj6 (k : List AV → α) (v : AV) : Qo4 E k v = (match v.aggs? with
  | some cs => k cs
  | none => E.fail) := by
 unfold Qo4 AV.aggs?
 split <;> simp_all [Wp]
end
end
end Go.Av
