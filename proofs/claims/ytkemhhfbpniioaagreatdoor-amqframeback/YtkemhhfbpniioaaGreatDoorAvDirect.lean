/- An abstract machine for the modelled code, and what its runs say of real calls. Part of a proof of a given statement: for every input the law returns true and the arguments read as before; no condition beyond the given row. -/
import Derived.Test.YtkemhhfbpniioaaGreatDoorAvBase
namespace Go.Av
noncomputable section
universe u
def plc (hp : List AObj) (na : Nat) (o : AObj) : List AObj := if na = hp.length then hp ++ [o] else hp.set na o
theorem Q0u {H : List AObj} {na : Nat} (h : na ≤ H.length) (o : AObj) (x : Nat) : (plc H na o)[x]? = if x = na then some o else H[x]? := by
 unfold plc
 by_cases hn : na = H.length
 ·subst hn
  rw [if_pos rfl]
  by_cases hx : x = H.length
  ·subst hx; simp
  ·rw [if_neg hx]
   by_cases hlt : x < H.length
   ·rw [List.getElem?_append_left hlt]
   ·rw [List.getElem?_eq_none (by simp; omega), List.getElem?_eq_none (by omega)]
 ·rw [if_neg hn]
  by_cases hx : x = na
  ·subst hx; rw [if_pos rfl, List.getElem?_set_self (by omega)]
  ·rw [if_neg hx, List.getElem?_set_ne (fun e => hx e.symm)]
theorem Gj {H : List AObj} {na : Nat} (o : AObj) : H.length ≤ (plc H na o).length ∧ (na ≤ H.length → na < (plc H na o).length) := by
 unfold plc
 split <;> simp <;> omega

section
variable {α : Type u} (E : Env α)

def Q5 (tm : List AV) : Opd → AV
 | .t i => tm.getD i .any
 | .c v => .p v
 | .g i => .gptr i 0
 | .f i => .p (.func (.func i) [] [])

theorem G7 : ∀ (l : List AV) (i : Nat) (k : AV → α), Qj6 l i k = k (l.getD i .any)
 | [], i, k => by show k .any = _; simp
 | v :: vs, 0, k => by show k v = _; simp
 | v :: vs, n + 1, k => by show Qj6 vs n k = _; rw [G7 vs n k]; simp
theorem Q3p : ∀ (l : List AV) (i : Nat) (x : AV) (k : List AV → α), Qj4 l i x k = k (l.set i x)
 | [], i, x, k => by show k [] = _; simp
 | v :: vs, 0, x, k => by show k (x :: vs) = _; simp
 | v :: vs, n + 1, x, k => by show Qj4 vs n x (fun vs => k (v :: vs)) = _; rw [Q3p vs n x]; simp
theorem Q2p {β : Type} : ∀ (n : Nat) (l : List β) (k : List β → α), Qeh n l k = k (l.take n)
 | 0, l, k => by show k [] = _; simp
 | n + 1, [], k => by show k [] = _; simp
 | n + 1, v :: vs, k => by show Qeh n vs (fun vs => k (v :: vs)) = _; rw [Q2p n vs]; simp
theorem Ue {β : Type} : ∀ (n : Nat) (l : List β) (k : List β → α), Q5i n l k = k (l.drop n)
 | 0, l, k => by show k l = _; simp
 | n + 1, [], k => by show k [] = _; simp
 | n + 1, v :: vs, k => by show Q5i n vs k = _; rw [Ue n vs]; simp
theorem J3 {β : Type} : ∀ (a b : List β) (k : List β → α), Qdb a b k = k (a ++ b)
 | [], b, k => by show k b = _; simp
 | v :: vs, b, k => by show Qdb vs b (fun r => k (v :: r)) = _; rw [J3 vs]; simp
theorem Xw {β γ : Type} (f : β → γ) : ∀ (a : List β) (k : List γ → α), Q58 f a k = k (a.map f)
 | [], k => by show k [] = _; simp
 | v :: vs, k => by show Q58 f vs (fun r => k (f v :: r)) = _; rw [Xw f vs]; simp
theorem Q5c : ∀ (l : List AObj) (i : Nat) (x : AObj) (k : List AObj → α), Qmz l i x k = k (l.set i x)
 | [], i, x, k => by show k [] = _; simp
 | v :: vs, 0, x, k => by show k (x :: vs) = _; simp
 | v :: vs, n + 1, x, k => by show Qmz vs n x (fun vs => k (v :: vs)) = _; rw [Q5c vs n x]; simp
theorem Ja : ∀ (l : List AObj) (i : Nat) (k : AObj → α), Qdz E l i k = (match l[i]? with
  | some o => k o
  | none => E.fail)
 | [], i, k => by show E.fail = _; simp
 | v :: vs, 0, k => by show k v = _; simp
 | v :: vs, n + 1, k => by show Qdz E vs n k = _; rw [Ja vs n k]; simp
theorem Qbh {β : Type} (x : β) : ∀ (n : Nat) (k : List β → α), Qpb x n k = k (List.replicate n x)
 | 0, k => by show k [] = _; simp
 | n + 1, k => by show Qpb x n (fun r => k (x :: r)) = _; rw [Qbh x n]; simp [List.replicate_succ]
theorem Z4 (tm : List AV) (k : AV → α) (x : Opd) : Wk tm k x = k (Q5 tm x) := by
 cases x <;> simp [Wk, Q5, G7]
theorem Vz (tm : List AV) : ∀ (l : List Opd) (k : List AV → α), Q92 tm l k = k (l.map (Q5 tm))
 | [], k => by simp [Qk5]
 | x :: r, k => by simp [Qgu, Z4, Vz tm r]
theorem Qf1 (tm : List AV) (k : Option AV → α) (x : Option Opd) : Qlm tm k x = k (x.map (Q5 tm)) := by
 cases x <;> simp [Qlm, Z4]

theorem Q87 (k : List AV → α) (v : AV) : Qa1 E k v = (match v.cells? with
  | some cs => k cs
  | none => E.fail) := by
 unfold Qa1 AV.cells?
 split <;> simp_all [Xw]
theorem Qki (k : List AV → α) (v : AV) : Qr1 E k v = (match v.aggs? with
  | some cs => k cs
  | none => E.fail) := by
 unfold Qr1 AV.aggs?
 split <;> simp_all [Xw]
end
end
end Go.Av
