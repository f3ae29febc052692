/- An abstract machine for the modelled code, and what its runs say of real calls. Part of a proof of a given statement: for every input the law returns true and the arguments read as before; no condition beyond the given row. -/
import Derived.Test.YtegedmcbfmfjeaaGreatDoorAvBase
namespace Go.Av
noncomputable section
universe u
def plc (hp : List AObj) (na : Nat) (o : AObj) : List AObj := if na = hp.length then hp ++ [o] else hp.set na o
theorem Q0t {H : List AObj} {na : Nat} (h : na ≤ H.length) (o : AObj) (x : Nat) : (plc H na o)[x]? = if x = na then some o else H[x]? := by
 unfold plc
 by_cases hn : na = H.length
 ·subst hn
  rw [if_pos rfl]
  by_cases hx : x = H.length
  ·subst hx; simp
  ·rw [if_neg hx]
   by_cases hlt : x < H.length
   ·rw [List.getElem?_append_left hlt]
   ·rw [List.getElem?_eq_none (by simp; omega), List.getElem?_eq_none (by omega)]
 ·rw [if_neg hn]
  by_cases hx : x = na
  ·subst hx; rw [if_pos rfl, List.getElem?_set_self (by omega)]
  ·rw [if_neg hx, List.getElem?_set_ne (fun e => hx e.symm)]
theorem Gg {H : List AObj} {na : Nat} (o : AObj) : H.length ≤ (plc H na o).length ∧ (na ≤ H.length → na < (plc H na o).length) := by
 unfold plc
 split <;> simp <;> omega

section
variable {α : Type u} (E : Env α)

def Q4 (tm : List AV) : Opd → AV
 | .t i => tm.getD i .any
 | .c v => .p v
 | .g i => .gptr i 0
 | .f i => .p (.func (.func i) [] [])

theorem G0 : ∀ (l : List AV) (i : Nat) (k : AV → α), Qjo l i k = k (l.getD i .any)
 | [], i, k => by show k .any = _; simp
 | v :: vs, 0, k => by show k v = _; simp
 | v :: vs, n + 1, k => by show Qjo vs n k = _; rw [G0 vs n k]; simp
theorem Q2a : ∀ (l : List AV) (i : Nat) (x : AV) (k : List AV → α), Qjh l i x k = k (l.set i x)
 | [], i, x, k => by show k [] = _; simp
 | v :: vs, 0, x, k => by show k (x :: vs) = _; simp
 | v :: vs, n + 1, x, k => by show Qjh vs n x (fun vs => k (v :: vs)) = _; rw [Q2a vs n x]; simp
theorem Q2n {β : Type} : ∀ (n : Nat) (l : List β) (k : List β → α), Qe9 n l k = k (l.take n)
 | 0, l, k => by show k [] = _; simp
 | n + 1, [], k => by show k [] = _; simp
 | n + 1, v :: vs, k => by show Qe9 n vs (fun vs => k (v :: vs)) = _; rw [Q2n n vs]; simp
theorem Vv {β : Type} : ∀ (n : Nat) (l : List β) (k : List β → α), Q33 n l k = k (l.drop n)
 | 0, l, k => by show k l = _; simp
 | n + 1, [], k => by show k [] = _; simp
 | n + 1, v :: vs, k => by show Q33 n vs k = _; rw [Vv n vs]; simp
theorem Jd {β : Type} : ∀ (a b : List β) (k : List β → α), Qca a b k = k (a ++ b)
 | [], b, k => by show k b = _; simp
 | v :: vs, b, k => by show Qca vs b (fun r => k (v :: r)) = _; rw [Jd vs]; simp
theorem Wm {β γ : Type} (f : β → γ) : ∀ (a : List β) (k : List γ → α), Q5g f a k = k (a.map f)
 | [], k => by show k [] = _; simp
 | v :: vs, k => by show Q5g f vs (fun r => k (f v :: r)) = _; rw [Wm f vs]; simp
theorem Q4q : ∀ (l : List AObj) (i : Nat) (x : AObj) (k : List AObj → α), Ql8 l i x k = k (l.set i x)
 | [], i, x, k => by show k [] = _; simp
 | v :: vs, 0, x, k => by show k (x :: vs) = _; simp
 | v :: vs, n + 1, x, k => by show Ql8 vs n x (fun vs => k (v :: vs)) = _; rw [Q4q vs n x]; simp
theorem Jj : ∀ (l : List AObj) (i : Nat) (k : AObj → α), Qdk E l i k = (match l[i]? with
  | some o => k o
  | none => E.fail)
 | [], i, k => by show E.fail = _; simp
 | v :: vs, 0, k => by show k v = _; simp
 | v :: vs, n + 1, k => by show Qdk E vs n k = _; rw [Jj vs n k]; simp
theorem Qas {β : Type} (x : β) : ∀ (n : Nat) (k : List β → α), Qnf x n k = k (List.replicate n x)
 | 0, k => by show k [] = _; simp
 | n + 1, k => by show Qnf x n (fun r => k (x :: r)) = _; rw [Qas x n]; simp [List.replicate_succ]
theorem Z9 (tm : List AV) (k : AV → α) (x : Opd) : V3 tm k x = k (Q4 tm x) := by
 cases x <;> simp [V3, Q4, G0]
theorem U8 (tm : List AV) : ∀ (l : List Opd) (k : List AV → α), Q8g tm l k = k (l.map (Q4 tm))
 | [], k => by simp [Qjs]
 | x :: r, k => by simp [Qg4, Z9, U8 tm r]
theorem Qe7 (tm : List AV) (k : Option AV → α) (x : Option Opd) : Qk7 tm k x = k (x.map (Q4 tm)) := by
 cases x <;> simp [Qk7, Z9]

theorem Q7s (k : List AV → α) (v : AV) : Q90 E k v = (match v.cells? with
  | some cs => k cs
  | none => E.fail) := by
 unfold Q90 AV.cells?
 split <;> simp_all [Wm]
theorem Qhy (k : List AV → α) (v : AV) : Qpg E k v = (match v.aggs? with
  | some cs => k cs
  | none => E.fail) := by
 unfold Qpg AV.aggs?
 split <;> simp_all [Wm]
end
end
end Go.Av
