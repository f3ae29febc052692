/- An abstract machine for the modelled code, and what its runs say of real calls. Part of a proof of a given statement: for every input the law returns true and the arguments read as before; no condition beyond the given row. -/
import Derived.Test.YtegedmcbfmfjeaaGreatDoorAvBase
namespace Go.Av
noncomputable section
universe u
def plc (hp : List AObj) (na : Nat) (o : AObj) : List AObj := if na = hp.length then hp ++ [o] else hp.set na o
theorem Q39 {H : List AObj} {na : Nat} (h : na ≤ H.length) (o : AObj) (x : Nat) : (plc H na o)[x]? = if x = na then some o else H[x]? := by
 unfold plc
 by_cases hn : na = H.length
 ·subst hn
  rw [if_pos rfl]
  by_cases hx : x = H.length
  ·subst hx; simp
  ·rw [if_neg hx]
   by_cases hlt : x < H.length
   ·rw [List.getElem?_append_left hlt]
   ·rw [List.getElem?_eq_none (by simp; omega), List.getElem?_eq_none (by omega)]
 ·rw [if_neg hn]
  by_cases hx : x = na
  ·subst hx; rw [if_pos rfl, List.getElem?_set_self (by omega)]
  ·rw [if_neg hx, List.getElem?_set_ne (fun e => hx e.symm)]
theorem Q0s {H : List AObj} {na : Nat} (o : AObj) : H.length ≤ (plc H na o).length ∧ (na ≤ H.length → na < (plc H na o).length) := by
 unfold plc
 split <;> simp <;> omega

section
variable {α : Type u} (E : Env α)

def Q7 (tm : List AV) : Opd → AV
 | .t i => tm.getD i .any
 | .c v => .p v
 | .g i => .gptr i 0
 | .f i => .p (.func (.func i) [] [])

theorem Q04 : ∀ (l : List AV) (i : Nat) (k : AV → α), Qo0 l i k = k (l.getD i .any)
 | [], i, k => by show k .any = _; simp
 | v :: vs, 0, k => by show k v = _; simp
 | v :: vs, n + 1, k => by show Qo0 vs n k = _; rw [Q04 vs n k]; simp
theorem Q47 : ∀ (l : List AV) (i : Nat) (x : AV) (k : List AV → α), Ql0 l i x k = k (l.set i x)
 | [], i, x, k => by show k [] = _; simp
 | v :: vs, 0, x, k => by show k (x :: vs) = _; simp
 | v :: vs, n + 1, x, k => by show Ql0 vs n x (fun vs => k (v :: vs)) = _; rw [Q47 vs n x]; simp
theorem Q4q {β : Type} : ∀ (n : Nat) (l : List β) (k : List β → α), Qgz n l k = k (l.take n)
 | 0, l, k => by show k [] = _; simp
 | n + 1, [], k => by show k [] = _; simp
 | n + 1, v :: vs, k => by show Qgz n vs (fun vs => k (v :: vs)) = _; rw [Q4q n vs]; simp
theorem Uq {β : Type} : ∀ (n : Nat) (l : List β) (k : List β → α), Q5d n l k = k (l.drop n)
 | 0, l, k => by show k l = _; simp
 | n + 1, [], k => by show k [] = _; simp
 | n + 1, v :: vs, k => by show Q5d n vs k = _; rw [Uq n vs]; simp
theorem Gb {β : Type} : ∀ (a b : List β) (k : List β → α), Qex a b k = k (a ++ b)
 | [], b, k => by show k b = _; simp
 | v :: vs, b, k => by show Qex vs b (fun r => k (v :: r)) = _; rw [Gb vs]; simp
theorem Wy {β γ : Type} (f : β → γ) : ∀ (a : List β) (k : List γ → α), Q7o f a k = k (a.map f)
 | [], k => by show k [] = _; simp
 | v :: vs, k => by show Q7o f vs (fun r => k (f v :: r)) = _; rw [Wy f vs]; simp
theorem Q7g : ∀ (l : List AObj) (i : Nat) (x : AObj) (k : List AObj → α), Qpz l i x k = k (l.set i x)
 | [], i, x, k => by show k [] = _; simp
 | v :: vs, 0, x, k => by show k (x :: vs) = _; simp
 | v :: vs, n + 1, x, k => by show Qpz vs n x (fun vs => k (v :: vs)) = _; rw [Q7g vs n x]; simp
theorem Gm : ∀ (l : List AObj) (i : Nat) (k : AObj → α), Qh0 E l i k = (match l[i]? with
  | some o => k o
  | none => E.fail)
 | [], i, k => by show E.fail = _; simp
 | v :: vs, 0, k => by show k v = _; simp
 | v :: vs, n + 1, k => by show Qh0 E vs n k = _; rw [Gm vs n k]; simp
theorem Qdy {β : Type} (x : β) : ∀ (n : Nat) (k : List β → α), Qra x n k = k (List.replicate n x)
 | 0, k => by show k [] = _; simp
 | n + 1, k => by show Qra x n (fun r => k (x :: r)) = _; rw [Qdy x n]; simp [List.replicate_succ]
theorem Za (tm : List AV) (k : AV → α) (x : Opd) : Vq tm k x = k (Q7 tm x) := by
 cases x <;> simp [Vq, Q7, Q04]
theorem Jb (tm : List AV) : ∀ (l : List Opd) (k : List AV → α), Qb2 tm l k = k (l.map (Q7 tm))
 | [], k => by simp [Qlq]
 | x :: r, k => by simp [Qji, Za, Jb tm r]
theorem Qh1 (tm : List AV) (k : Option AV → α) (x : Option Opd) : Qo8 tm k x = k (x.map (Q7 tm)) := by
 cases x <;> simp [Qo8, Za]

theorem Qad (k : List AV → α) (v : AV) : Qbu E k v = (match v.cells? with
  | some cs => k cs
  | none => E.fail) := by
 unfold Qbu AV.cells?
 split <;> simp_all [Wy]
theorem Qm6 (k : List AV → α) (v : AV) : Qu5 E k v = (match v.aggs? with
  | some cs => k cs
  | none => E.fail) := by
 unfold Qu5 AV.aggs?
 split <;> simp_all [Wy]
end
end
end Go.Av
