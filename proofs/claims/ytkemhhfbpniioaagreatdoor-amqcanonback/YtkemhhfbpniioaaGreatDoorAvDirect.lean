/- An abstract machine for the modelled code, and what its runs say of real calls. Part of a proof of a given statement: for every input the law returns true and the arguments read as before; no condition beyond the given row. -/
import Derived.Test.YtkemhhfbpniioaaGreatDoorAvBase
namespace Go.Av
noncomputable section
universe u
def plc (hp : List AObj) (na : Nat) (o : AObj) : List AObj := if na = hp.length then hp ++ [o] else hp.set na o
theorem Q1l {H : List AObj} {na : Nat} (h : na ≤ H.length) (o : AObj) (x : Nat) : (plc H na o)[x]? = if x = na then some o else H[x]? := by
 unfold plc
 by_cases hn : na = H.length
 ·subst hn
  rw [if_pos rfl]
  by_cases hx : x = H.length
  ·subst hx; simp
  ·rw [if_neg hx]
   by_cases hlt : x < H.length
   ·rw [List.getElem?_append_left hlt]
   ·rw [List.getElem?_eq_none (by simp; omega), List.getElem?_eq_none (by omega)]
 ·rw [if_neg hn]
  by_cases hx : x = na
  ·subst hx; rw [if_pos rfl, List.getElem?_set_self (by omega)]
  ·rw [if_neg hx, List.getElem?_set_ne (fun e => hx e.symm)]
theorem Ge {H : List AObj} {na : Nat} (o : AObj) : H.length ≤ (plc H na o).length ∧ (na ≤ H.length → na < (plc H na o).length) := by
 unfold plc
 split <;> simp <;> omega

section
variable {α : Type u} (E : Env α)

def Q6 (tm : List AV) : Opd → AV
 | .t i => tm.getD i .any
 | .c v => .p v
 | .g i => .gptr i 0
 | .f i => .p (.func (.func i) [] [])

theorem G9 : ∀ (l : List AV) (i : Nat) (k : AV → α), Qjt l i k = k (l.getD i .any)
 | [], i, k => by show k .any = _; simp
 | v :: vs, 0, k => by show k v = _; simp
 | v :: vs, n + 1, k => by show Qjt vs n k = _; rw [G9 vs n k]; simp
theorem Q3g : ∀ (l : List AV) (i : Nat) (x : AV) (k : List AV → α), Qid l i x k = k (l.set i x)
 | [], i, x, k => by show k [] = _; simp
 | v :: vs, 0, x, k => by show k (x :: vs) = _; simp
 | v :: vs, n + 1, x, k => by show Qid vs n x (fun vs => k (v :: vs)) = _; rw [Q3g vs n x]; simp
theorem Q42 {β : Type} : ∀ (n : Nat) (l : List β) (k : List β → α), Qgm n l k = k (l.take n)
 | 0, l, k => by show k [] = _; simp
 | n + 1, [], k => by show k [] = _; simp
 | n + 1, v :: vs, k => by show Qgm n vs (fun vs => k (v :: vs)) = _; rw [Q42 n vs]; simp
theorem U9 {β : Type} : ∀ (n : Nat) (l : List β) (k : List β → α), Q5m n l k = k (l.drop n)
 | 0, l, k => by show k l = _; simp
 | n + 1, [], k => by show k [] = _; simp
 | n + 1, v :: vs, k => by show Q5m n vs k = _; rw [U9 n vs]; simp
theorem Ut {β : Type} : ∀ (a b : List β) (k : List β → α), Qbn a b k = k (a ++ b)
 | [], b, k => by show k b = _; simp
 | v :: vs, b, k => by show Qbn vs b (fun r => k (v :: r)) = _; rw [Ut vs]; simp
theorem We {β γ : Type} (f : β → γ) : ∀ (a : List β) (k : List γ → α), Q5o f a k = k (a.map f)
 | [], k => by show k [] = _; simp
 | v :: vs, k => by show Q5o f vs (fun r => k (f v :: r)) = _; rw [We f vs]; simp
theorem Q5k : ∀ (l : List AObj) (i : Nat) (x : AObj) (k : List AObj → α), Qn2 l i x k = k (l.set i x)
 | [], i, x, k => by show k [] = _; simp
 | v :: vs, 0, x, k => by show k (x :: vs) = _; simp
 | v :: vs, n + 1, x, k => by show Qn2 vs n x (fun vs => k (v :: vs)) = _; rw [Q5k vs n x]; simp
theorem Jb : ∀ (l : List AObj) (i : Nat) (k : AObj → α), Qdx E l i k = (match l[i]? with
  | some o => k o
  | none => E.fail)
 | [], i, k => by show E.fail = _; simp
 | v :: vs, 0, k => by show k v = _; simp
 | v :: vs, n + 1, k => by show Qdx E vs n k = _; rw [Jb vs n k]; simp
theorem Q9x {β : Type} (x : β) : ∀ (n : Nat) (k : List β → α), Qp3 x n k = k (List.replicate n x)
 | 0, k => by show k [] = _; simp
 | n + 1, k => by show Qp3 x n (fun r => k (x :: r)) = _; rw [Q9x x n]; simp [List.replicate_succ]
theorem Z0 (tm : List AV) (k : AV → α) (x : Opd) : Wv tm k x = k (Q6 tm x) := by
 cases x <;> simp [Wv, Q6, G9]
theorem Vw (tm : List AV) : ∀ (l : List Opd) (k : List AV → α), Q8o tm l k = k (l.map (Q6 tm))
 | [], k => by simp [Qj3]
 | x :: r, k => by simp [Qgv, Z0, Vw tm r]
theorem Qdj (tm : List AV) (k : Option AV → α) (x : Option Opd) : Qlb tm k x = k (x.map (Q6 tm)) := by
 cases x <;> simp [Qlb, Z0]

theorem Q7x (k : List AV → α) (v : AV) : Q9a E k v = (match v.cells? with
  | some cs => k cs
  | none => E.fail) := by
 unfold Q9a AV.cells?
 split <;> simp_all [We]
theorem Qi9 (k : List AV → α) (v : AV) : Qqv E k v = (match v.aggs? with
  | some cs => k cs
  | none => E.fail) := by
 unfold Qqv AV.aggs?
 split <;> simp_all [We]
end
end
end Go.Av
