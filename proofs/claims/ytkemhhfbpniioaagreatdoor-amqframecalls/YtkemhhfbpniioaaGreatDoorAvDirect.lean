/- An abstract machine for the modelled code, and what its runs say of real calls. Part of a proof of a given statement: for every input the law returns true and the arguments read as before; no condition beyond the given row. -/
import Derived.Test.YtkemhhfbpniioaaGreatDoorAvBase
namespace Go.Av
noncomputable section
universe u
def plc (hp : List AObj) (na : Nat) (o : AObj) : List AObj := if na = hp.length then hp ++ [o] else hp.set na o
theorem Q6d {H : List AObj} {na : Nat} (h : na ≤ H.length) (o : AObj) (x : Nat) : (plc H na o)[x]? = if x = na then some o else H[x]? := by
 unfold plc
 by_cases hn : na = H.length
 ·subst hn
  rw [if_pos rfl]
  by_cases hx : x = H.length
  ·subst hx; simp
  ·rw [if_neg hx]
   by_cases hlt : x < H.length
   ·rw [List.getElem?_append_left hlt]
   ·rw [List.getElem?_eq_none (by simp; omega), List.getElem?_eq_none (by omega)]
 ·rw [if_neg hn]
  by_cases hx : x = na
  ·subst hx; rw [if_pos rfl, List.getElem?_set_self (by omega)]
  ·rw [if_neg hx, List.getElem?_set_ne (fun e => hx e.symm)]
theorem Q3a {H : List AObj} {na : Nat} (o : AObj) : H.length ≤ (plc H na o).length ∧ (na ≤ H.length → na < (plc H na o).length) := by
 unfold plc
 split <;> simp <;> omega

section
variable {α : Type u} (E : Env α)

def Qb (tm : List AV) : Opd → AV
 | .t i => tm.getD i .any
 | .c v => .p v
 | .g i => .gptr i 0
 | .f i => .p (.func (.func i) [] [])

theorem Q41 : ∀ (l : List AV) (i : Nat) (k : AV → α), Qrv l i k = k (l.getD i .any)
 | [], i, k => by show k .any = _; simp
 | v :: vs, 0, k => by show k v = _; simp
 | v :: vs, n + 1, k => by show Qrv vs n k = _; rw [Q41 vs n k]; simp
theorem Q95 : ∀ (l : List AV) (i : Nat) (x : AV) (k : List AV → α), Qs3 l i x k = k (l.set i x)
 | [], i, x, k => by show k [] = _; simp
 | v :: vs, 0, x, k => by show k (x :: vs) = _; simp
 | v :: vs, n + 1, x, k => by show Qs3 vs n x (fun vs => k (v :: vs)) = _; rw [Q95 vs n x]; simp
theorem Q83 {β : Type} : ∀ (n : Nat) (l : List β) (k : List β → α), Qkt n l k = k (l.take n)
 | 0, l, k => by show k [] = _; simp
 | n + 1, [], k => by show k [] = _; simp
 | n + 1, v :: vs, k => by show Qkt n vs (fun vs => k (v :: vs)) = _; rw [Q83 n vs]; simp
theorem Q1a {β : Type} : ∀ (n : Nat) (l : List β) (k : List β → α), Qaw n l k = k (l.drop n)
 | 0, l, k => by show k l = _; simp
 | n + 1, [], k => by show k [] = _; simp
 | n + 1, v :: vs, k => by show Qaw n vs k = _; rw [Q1a n vs]; simp
theorem Q23 {β : Type} : ∀ (a b : List β) (k : List β → α), Qio a b k = k (a ++ b)
 | [], b, k => by show k b = _; simp
 | v :: vs, b, k => by show Qio vs b (fun r => k (v :: r)) = _; rw [Q23 vs]; simp
theorem Uy {β γ : Type} (f : β → γ) : ∀ (a : List β) (k : List γ → α), Qbd f a k = k (a.map f)
 | [], k => by show k [] = _; simp
 | v :: vs, k => by show Qbd f vs (fun r => k (f v :: r)) = _; rw [Uy f vs]; simp
theorem Qb1 : ∀ (l : List AObj) (i : Nat) (x : AObj) (k : List AObj → α), Qv5 l i x k = k (l.set i x)
 | [], i, x, k => by show k [] = _; simp
 | v :: vs, 0, x, k => by show k (x :: vs) = _; simp
 | v :: vs, n + 1, x, k => by show Qv5 vs n x (fun vs => k (v :: vs)) = _; rw [Qb1 vs n x]; simp
theorem Q2i : ∀ (l : List AObj) (i : Nat) (k : AObj → α), Qky E l i k = (match l[i]? with
  | some o => k o
  | none => E.fail)
 | [], i, k => by show E.fail = _; simp
 | v :: vs, 0, k => by show k v = _; simp
 | v :: vs, n + 1, k => by show Qky E vs n k = _; rw [Q2i vs n k]; simp
theorem Qgv {β : Type} (x : β) : ∀ (n : Nat) (k : List β → α), Qxd x n k = k (List.replicate n x)
 | 0, k => by show k [] = _; simp
 | n + 1, k => by show Qxd x n (fun r => k (x :: r)) = _; rw [Qgv x n]; simp [List.replicate_succ]
theorem Zm (tm : List AV) (k : AV → α) (x : Opd) : Jx tm k x = k (Qb tm x) := by
 cases x <;> simp [Jx, Qb, Q41]
theorem Q0p (tm : List AV) : ∀ (l : List Opd) (k : List AV → α), Qf8 tm l k = k (l.map (Qb tm))
 | [], k => by simp [Qr9]
 | x :: r, k => by simp [Qo8, Zm, Q0p tm r]
theorem Qlf (tm : List AV) (k : Option AV → α) (x : Option Opd) : Qsz tm k x = k (x.map (Qb tm)) := by
 cases x <;> simp [Qsz, Zm]

theorem Qd6 (k : List AV → α) (v : AV) : Qfa E k v = (match v.cells? with
  | some cs => k cs
  | none => E.fail) := by
 unfold Qfa AV.cells?
 split <;> simp_all [Uy]
theorem Qri (k : List AV → α) (v : AV) : Qzl E k v = (match v.aggs? with
  | some cs => k cs
  | none => E.fail) := by
 unfold Qzl AV.aggs?
 split <;> simp_all [Uy]
end
end
end Go.Av
