/- An abstract machine for the modelled code, and what its runs say of real calls. Part of a proof of a given statement: for every input the law returns true and the arguments read as before; no condition beyond the given row. -/
import Derived.Test.YtkemhhfbpniioaaGreatDoorAvBase
namespace Go.Av
noncomputable section
universe u
def plc (hp : List AObj) (na : Nat) (o : AObj) : List AObj := if na = hp.length then hp ++ [o] else hp.set na o
theorem Q1p {H : List AObj} {na : Nat} (h : na ≤ H.length) (o : AObj) (x : Nat) : (plc H na o)[x]? = if x = na then some o else H[x]? := by
 unfold plc
 by_cases hn : na = H.length
 ·subst hn
  rw [if_pos rfl]
  by_cases hx : x = H.length
  ·subst hx; simp
  ·rw [if_neg hx]
   by_cases hlt : x < H.length
   ·rw [List.getElem?_append_left hlt]
   ·rw [List.getElem?_eq_none (by simp; omega), List.getElem?_eq_none (by omega)]
 ·rw [if_neg hn]
  by_cases hx : x = na
  ·subst hx; rw [if_pos rfl, List.getElem?_set_self (by omega)]
  ·rw [if_neg hx, List.getElem?_set_ne (fun e => hx e.symm)]
theorem Q00 {H : List AObj} {na : Nat} (o : AObj) : H.length ≤ (plc H na o).length ∧ (na ≤ H.length → na < (plc H na o).length) := by
 unfold plc
 split <;> simp <;> omega

section
variable {α : Type u} (E : Env α)

def Q5 (tm : List AV) : Opd → AV
 | .t i => tm.getD i .any
 | .c v => .p v
 | .g i => .gptr i 0
 | .f i => .p (.func (.func i) [] [])

theorem Gx : ∀ (l : List AV) (i : Nat) (k : AV → α), Qkp l i k = k (l.getD i .any)
 | [], i, k => by show k .any = _; simp
 | v :: vs, 0, k => by show k v = _; simp
 | v :: vs, n + 1, k => by show Qkp vs n k = _; rw [Gx vs n k]; simp
theorem Q4i : ∀ (l : List AV) (i : Nat) (x : AV) (k : List AV → α), Qmc l i x k = k (l.set i x)
 | [], i, x, k => by show k [] = _; simp
 | v :: vs, 0, x, k => by show k (x :: vs) = _; simp
 | v :: vs, n + 1, x, k => by show Qmc vs n x (fun vs => k (v :: vs)) = _; rw [Q4i vs n x]; simp
theorem Q3o {β : Type} : ∀ (n : Nat) (l : List β) (k : List β → α), Qgh n l k = k (l.take n)
 | 0, l, k => by show k [] = _; simp
 | n + 1, [], k => by show k [] = _; simp
 | n + 1, v :: vs, k => by show Qgh n vs (fun vs => k (v :: vs)) = _; rw [Q3o n vs]; simp
theorem Uy {β : Type} : ∀ (n : Nat) (l : List β) (k : List β → α), Q6b n l k = k (l.drop n)
 | 0, l, k => by show k l = _; simp
 | n + 1, [], k => by show k [] = _; simp
 | n + 1, v :: vs, k => by show Q6b n vs k = _; rw [Uy n vs]; simp
theorem Jk {β : Type} : ∀ (a b : List β) (k : List β → α), Qeg a b k = k (a ++ b)
 | [], b, k => by show k b = _; simp
 | v :: vs, b, k => by show Qeg vs b (fun r => k (v :: r)) = _; rw [Jk vs]; simp
theorem Wd {β γ : Type} (f : β → γ) : ∀ (a : List β) (k : List γ → α), Q6r f a k = k (a.map f)
 | [], k => by show k [] = _; simp
 | v :: vs, k => by show Q6r f vs (fun r => k (f v :: r)) = _; rw [Wd f vs]; simp
theorem Q6d : ∀ (l : List AObj) (i : Nat) (x : AObj) (k : List AObj → α), Qo1 l i x k = k (l.set i x)
 | [], i, x, k => by show k [] = _; simp
 | v :: vs, 0, x, k => by show k (x :: vs) = _; simp
 | v :: vs, n + 1, x, k => by show Qo1 vs n x (fun vs => k (v :: vs)) = _; rw [Q6d vs n x]; simp
theorem Jr : ∀ (l : List AObj) (i : Nat) (k : AObj → α), Qg6 E l i k = (match l[i]? with
  | some o => k o
  | none => E.fail)
 | [], i, k => by show E.fail = _; simp
 | v :: vs, 0, k => by show k v = _; simp
 | v :: vs, n + 1, k => by show Qg6 E vs n k = _; rw [Jr vs n k]; simp
theorem Qc7 {β : Type} (x : β) : ∀ (n : Nat) (k : List β → α), Qr8 x n k = k (List.replicate n x)
 | 0, k => by show k [] = _; simp
 | n + 1, k => by show Qr8 x n (fun r => k (x :: r)) = _; rw [Qc7 x n]; simp [List.replicate_succ]
theorem Z6 (tm : List AV) (k : AV → α) (x : Opd) : V0 tm k x = k (Q5 tm x) := by
 cases x <;> simp [V0, Q5, Gx]
theorem Uh (tm : List AV) : ∀ (l : List Opd) (k : List AV → α), Qa0 tm l k = k (l.map (Q5 tm))
 | [], k => by simp [Qjt]
 | x :: r, k => by simp [Qin, Z6, Uh tm r]
theorem Qfv (tm : List AV) (k : Option AV → α) (x : Option Opd) : Qn9 tm k x = k (x.map (Q5 tm)) := by
 cases x <;> simp [Qn9, Z6]

theorem Q9q (k : List AV → α) (v : AV) : Qak E k v = (match v.cells? with
  | some cs => k cs
  | none => E.fail) := by
 unfold Qak AV.cells?
 split <;> simp_all [Wd]
theorem Qmf (k : List AV → α) (v : AV) : Qsg E k v = (match v.aggs? with
  | some cs => k cs
  | none => E.fail) := by
 unfold Qsg AV.aggs?
 split <;> simp_all [Wd]
end
end
end Go.Av
