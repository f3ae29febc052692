/- An abstract machine for the modelled code, and what its runs say of real calls. Part of a proof of a given statement: for every input the law returns true and the arguments read as before; no condition beyond the given row. -/
import Derived.Test.YtegedmcbfmfjeaaDoorAvBase
namespace Go.Av
noncomputable section
universe u
def plc (hp : List AObj) (na : Nat) (o : AObj) : List AObj := if na = hp.length then hp ++ [o] else hp.set na o
theorem U4 {H : List AObj} {na : Nat} (h : na ≤ H.length) (o : AObj) (x : Nat) : (plc H na o)[x]? = if x = na then some o else H[x]? := by
 unfold plc
 by_cases hn : na = H.length
 ·subst hn
  rw [if_pos rfl]
  by_cases hx : x = H.length
  ·subst hx; simp
  ·rw [if_neg hx]
   by_cases hlt : x < H.length
   ·rw [List.getElem?_append_left hlt]
   ·rw [List.getElem?_eq_none (by simp; omega), List.getElem?_eq_none (by omega)]
 ·rw [if_neg hn]
  by_cases hx : x = na
  ·subst hx; rw [if_pos rfl, List.getElem?_set_self (by omega)]
  ·rw [if_neg hx, List.getElem?_set_ne (fun e => hx e.symm)]
theorem V1 {H : List AObj} {na : Nat} (o : AObj) : H.length ≤ (plc H na o).length ∧ (na ≤ H.length → na < (plc H na o).length) := by
 unfold plc
 split <;> simp <;> omega

section
variable {α : Type u} (E : Env α)

def Q3 (tm : List AV) : Opd → AV
 | .t i => tm.getD i .any
 | .c v => .p v
 | .g i => .gptr i 0
 | .f i => .p (.func (.func i) [] [])

theorem Wd : ∀ (l : List AV) (i : Nat) (k : AV → α), Q9t l i k = k (l.getD i .any)
 | [], i, k => by show k .any = _; simp
 | v :: vs, 0, k => by show k v = _; simp
 | v :: vs, n + 1, k => by show Q9t vs n k = _; rw [Wd vs n k]; simp
theorem Uj : ∀ (l : List AV) (i : Nat) (x : AV) (k : List AV → α), Q97 l i x k = k (l.set i x)
 | [], i, x, k => by show k [] = _; simp
 | v :: vs, 0, x, k => by show k (x :: vs) = _; simp
 | v :: vs, n + 1, x, k => by show Q97 vs n x (fun vs => k (v :: vs)) = _; rw [Uj vs n x]; simp
theorem J3 {β : Type} : ∀ (n : Nat) (l : List β) (k : List β → α), Q6v n l k = k (l.take n)
 | 0, l, k => by show k [] = _; simp
 | n + 1, [], k => by show k [] = _; simp
 | n + 1, v :: vs, k => by show Q6v n vs (fun vs => k (v :: vs)) = _; rw [J3 n vs]; simp
theorem Ym {β : Type} : ∀ (n : Nat) (l : List β) (k : List β → α), Jp n l k = k (l.drop n)
 | 0, l, k => by show k l = _; simp
 | n + 1, [], k => by show k [] = _; simp
 | n + 1, v :: vs, k => by show Jp n vs k = _; rw [Ym n vs]; simp
theorem Xl {β : Type} : ∀ (a b : List β) (k : List β → α), Q5a a b k = k (a ++ b)
 | [], b, k => by show k b = _; simp
 | v :: vs, b, k => by show Q5a vs b (fun r => k (v :: r)) = _; rw [Xl vs]; simp
theorem Zs {β γ : Type} (f : β → γ) : ∀ (a : List β) (k : List γ → α), Q0f f a k = k (a.map f)
 | [], k => by show k [] = _; simp
 | v :: vs, k => by show Q0f f vs (fun r => k (f v :: r)) = _; rw [Zs f vs]; simp
theorem Q03 : ∀ (l : List AObj) (i : Nat) (x : AObj) (k : List AObj → α), Qbm l i x k = k (l.set i x)
 | [], i, x, k => by show k [] = _; simp
 | v :: vs, 0, x, k => by show k (x :: vs) = _; simp
 | v :: vs, n + 1, x, k => by show Qbm vs n x (fun vs => k (v :: vs)) = _; rw [Q03 vs n x]; simp
theorem Xz : ∀ (l : List AObj) (i : Nat) (k : AObj → α), Q6g E l i k = (match l[i]? with
  | some o => k o
  | none => E.fail)
 | [], i, k => by show E.fail = _; simp
 | v :: vs, 0, k => by show k v = _; simp
 | v :: vs, n + 1, k => by show Q6g E vs n k = _; rw [Xz vs n k]; simp
theorem Q3w {β : Type} (x : β) : ∀ (n : Nat) (k : List β → α), Qct x n k = k (List.replicate n x)
 | 0, k => by show k [] = _; simp
 | n + 1, k => by show Qct x n (fun r => k (x :: r)) = _; rw [Q3w x n]; simp [List.replicate_succ]
theorem Qm (tm : List AV) (k : AV → α) (x : Opd) : Y2 tm k x = k (Q3 tm x) := by
 cases x <;> simp [Y2, Q3, Wd]
theorem Yy (tm : List AV) : ∀ (l : List Opd) (k : List AV → α), Q2g tm l k = k (l.map (Q3 tm))
 | [], k => by simp [Qae]
 | x :: r, k => by simp [Q86, Qm, Yy tm r]
theorem Q6q (tm : List AV) (k : Option AV → α) (x : Option Opd) : Qb3 tm k x = k (x.map (Q3 tm)) := by
 cases x <;> simp [Qb3, Qm]

theorem Q28 (k : List AV → α) (v : AV) : Q2v E k v = (match v.cells? with
  | some cs => k cs
  | none => E.fail) := by
 unfold Q2v AV.cells?
 split <;> simp_all [Zs]
theorem Qaj (k : List AV → α) (v : AV) : Qei E k v = (match v.aggs? with
  | some cs => k cs
  | none => E.fail) := by
 unfold Qei AV.aggs?
 split <;> simp_all [Zs]
end
end
end Go.Av
