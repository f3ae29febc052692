/- An abstract machine for the modelled code, and what its runs say of real calls. Part of a proof of a given statement: for every input the law returns true and the arguments read as before; no condition beyond the given row. -/
import Derived.Test.YtkemhhfbpniioaaGreatDoorAvBase
namespace Go.Av
noncomputable section
universe u
def plc (hp : List AObj) (na : Nat) (o : AObj) : List AObj := if na = hp.length then hp ++ [o] else hp.set na o
theorem Q1g {H : List AObj} {na : Nat} (h : na ≤ H.length) (o : AObj) (x : Nat) : (plc H na o)[x]? = if x = na then some o else H[x]? := by
 unfold plc
 by_cases hn : na = H.length
 ·subst hn
  rw [if_pos rfl]
  by_cases hx : x = H.length
  ·subst hx; simp
  ·rw [if_neg hx]
   by_cases hlt : x < H.length
   ·rw [List.getElem?_append_left hlt]
   ·rw [List.getElem?_eq_none (by simp; omega), List.getElem?_eq_none (by omega)]
 ·rw [if_neg hn]
  by_cases hx : x = na
  ·subst hx; rw [if_pos rfl, List.getElem?_set_self (by omega)]
  ·rw [if_neg hx, List.getElem?_set_ne (fun e => hx e.symm)]
theorem Gj {H : List AObj} {na : Nat} (o : AObj) : H.length ≤ (plc H na o).length ∧ (na ≤ H.length → na < (plc H na o).length) := by
 unfold plc
 split <;> simp <;> omega

section
variable {α : Type u} (E : Env α)

def Q5 (tm : List AV) : Opd → AV
 | .t i => tm.getD i .any
 | .c v => .p v
 | .g i => .gptr i 0
 | .f i => .p (.func (.func i) [] [])

theorem Gu : ∀ (l : List AV) (i : Nat) (k : AV → α), Ql7 l i k = k (l.getD i .any)
 | [], i, k => by show k .any = _; simp
 | v :: vs, 0, k => by show k v = _; simp
 | v :: vs, n + 1, k => by show Ql7 vs n k = _; rw [Gu vs n k]; simp
theorem Q41 : ∀ (l : List AV) (i : Nat) (x : AV) (k : List AV → α), Qit l i x k = k (l.set i x)
 | [], i, x, k => by show k [] = _; simp
 | v :: vs, 0, x, k => by show k (x :: vs) = _; simp
 | v :: vs, n + 1, x, k => by show Qit vs n x (fun vs => k (v :: vs)) = _; rw [Q41 vs n x]; simp
theorem Q52 {β : Type} : ∀ (n : Nat) (l : List β) (k : List β → α), Qhy n l k = k (l.take n)
 | 0, l, k => by show k [] = _; simp
 | n + 1, [], k => by show k [] = _; simp
 | n + 1, v :: vs, k => by show Qhy n vs (fun vs => k (v :: vs)) = _; rw [Q52 n vs]; simp
theorem Um {β : Type} : ∀ (n : Nat) (l : List β) (k : List β → α), Q5m n l k = k (l.drop n)
 | 0, l, k => by show k l = _; simp
 | n + 1, [], k => by show k [] = _; simp
 | n + 1, v :: vs, k => by show Q5m n vs k = _; rw [Um n vs]; simp
theorem Jb {β : Type} : ∀ (a b : List β) (k : List β → α), Qe9 a b k = k (a ++ b)
 | [], b, k => by show k b = _; simp
 | v :: vs, b, k => by show Qe9 vs b (fun r => k (v :: r)) = _; rw [Jb vs]; simp
theorem Ww {β γ : Type} (f : β → γ) : ∀ (a : List β) (k : List γ → α), Q6d f a k = k (a.map f)
 | [], k => by show k [] = _; simp
 | v :: vs, k => by show Q6d f vs (fun r => k (f v :: r)) = _; rw [Ww f vs]; simp
theorem Q5o : ∀ (l : List AObj) (i : Nat) (x : AObj) (k : List AObj → α), Qn4 l i x k = k (l.set i x)
 | [], i, x, k => by show k [] = _; simp
 | v :: vs, 0, x, k => by show k (x :: vs) = _; simp
 | v :: vs, n + 1, x, k => by show Qn4 vs n x (fun vs => k (v :: vs)) = _; rw [Q5o vs n x]; simp
theorem Jn : ∀ (l : List AObj) (i : Nat) (k : AObj → α), Qfb E l i k = (match l[i]? with
  | some o => k o
  | none => E.fail)
 | [], i, k => by show E.fail = _; simp
 | v :: vs, 0, k => by show k v = _; simp
 | v :: vs, n + 1, k => by show Qfb E vs n k = _; rw [Jn vs n k]; simp
theorem Qbp {β : Type} (x : β) : ∀ (n : Nat) (k : List β → α), Qqq x n k = k (List.replicate n x)
 | 0, k => by show k [] = _; simp
 | n + 1, k => by show Qqq x n (fun r => k (x :: r)) = _; rw [Qbp x n]; simp [List.replicate_succ]
theorem Z4 (tm : List AV) (k : AV → α) (x : Opd) : Vc tm k x = k (Q5 tm x) := by
 cases x <;> simp [Vc, Q5, Gu]
theorem Ub (tm : List AV) : ∀ (l : List Opd) (k : List AV → α), Q9i tm l k = k (l.map (Q5 tm))
 | [], k => by simp [Qjc]
 | x :: r, k => by simp [Qil, Z4, Ub tm r]
theorem Qem (tm : List AV) (k : Option AV → α) (x : Option Opd) : Qlz tm k x = k (x.map (Q5 tm)) := by
 cases x <;> simp [Qlz, Z4]

theorem Q84 (k : List AV → α) (v : AV) : Q9s E k v = (match v.cells? with
  | some cs => k cs
  | none => E.fail) := by
 unfold Q9s AV.cells?
 split <;> simp_all [Ww]
theorem Qka (k : List AV → α) (v : AV) : Qs2 E k v = (match v.aggs? with
  | some cs => k cs
  | none => E.fail) := by
 unfold Qs2 AV.aggs?
 split <;> simp_all [Ww]
end
end
end Go.Av
