/- An abstract machine for the modelled code, and what its runs say of real calls. Part of a proof of a given statement: for every input the law returns true and the arguments read as before; no condition beyond the given row. -/
import Derived.Test.YtmofajpflckpmaaGreatDoorAvBase
namespace Go.Av
noncomputable section
universe u
def plc (hp : List AObj) (na : Nat) (o : AObj) : List AObj := if na = hp.length then hp ++ [o] else hp.set na o
theorem Jb {H : List AObj} {na : Nat} (h : na ≤ H.length) (o : AObj) (x : Nat) : (plc H na o)[x]? = if x = na then some o else H[x]? := by
 unfold plc
 by_cases hn : na = H.length
 ·subst hn
  rw [if_pos rfl]
  by_cases hx : x = H.length
  ·subst hx; simp
  ·rw [if_neg hx]
   by_cases hlt : x < H.length
   ·rw [List.getElem?_append_left hlt]
   ·rw [List.getElem?_eq_none (by simp; omega), List.getElem?_eq_none (by omega)]
 ·rw [if_neg hn]
  by_cases hx : x = na
  ·subst hx; rw [if_pos rfl, List.getElem?_set_self (by omega)]
  ·rw [if_neg hx, List.getElem?_set_ne (fun e => hx e.symm)]
theorem Vm {H : List AObj} {na : Nat} (o : AObj) : H.length ≤ (plc H na o).length ∧ (na ≤ H.length → na < (plc H na o).length) := by
 unfold plc
 split <;> simp <;> omega

section
variable {α : Type u} (E : Env α)

def Q2 (tm : List AV) : Opd → AV
 | .t i => tm.getD i .any
 | .c v => .p v
 | .g i => .gptr i 0
 | .f i => .p (.func (.func i) [] [])
 | .m tbl i => Q5s tbl (tm.getD i .any)
 | .mm tbls i => Q8d tbls (tm.getD i .any)

theorem U0 : ∀ (l : List AV) (i : Nat) (k : AV → α), Qb5 l i k = k (l.getD i .any)
 | [], i, k => by show k .any = _; simp
 | v :: vs, 0, k => by show k v = _; simp
 | v :: vs, n + 1, k => by show Qb5 vs n k = _; rw [U0 vs n k]; simp
theorem Gy : ∀ (l : List AV) (i : Nat) (x : AV) (k : List AV → α), Qd6 l i x k = k (l.set i x)
 | [], i, x, k => by show k [] = _; simp
 | v :: vs, 0, x, k => by show k (x :: vs) = _; simp
 | v :: vs, n + 1, x, k => by show Qd6 vs n x (fun vs => k (v :: vs)) = _; rw [Gy vs n x]; simp
theorem Q1c {β : Type} : ∀ (n : Nat) (l : List β) (k : List β → α), Qb6 n l k = k (l.take n)
 | 0, l, k => by show k [] = _; simp
 | n + 1, [], k => by show k [] = _; simp
 | n + 1, v :: vs, k => by show Qb6 n vs (fun vs => k (v :: vs)) = _; rw [Q1c n vs]; simp
theorem V0 {β : Type} : ∀ (n : Nat) (l : List β) (k : List β → α), Q2f n l k = k (l.drop n)
 | 0, l, k => by show k l = _; simp
 | n + 1, [], k => by show k [] = _; simp
 | n + 1, v :: vs, k => by show Q2f n vs k = _; rw [V0 n vs]; simp
theorem Wc {β : Type} : ∀ (a b : List β) (k : List β → α), Q84 a b k = k (a ++ b)
 | [], b, k => by show k b = _; simp
 | v :: vs, b, k => by show Q84 vs b (fun r => k (v :: r)) = _; rw [Wc vs]; simp
theorem Ya {β γ : Type} (f : β → γ) : ∀ (a : List β) (k : List γ → α), Q1i f a k = k (a.map f)
 | [], k => by show k [] = _; simp
 | v :: vs, k => by show Q1i f vs (fun r => k (f v :: r)) = _; rw [Ya f vs]; simp
theorem Jn : ∀ (l : List AObj) (i : Nat) (x : AObj) (k : List AObj → α), Qbq l i x k = k (l.set i x)
 | [], i, x, k => by show k [] = _; simp
 | v :: vs, 0, x, k => by show k (x :: vs) = _; simp
 | v :: vs, n + 1, x, k => by show Qbq vs n x (fun vs => k (v :: vs)) = _; rw [Jn vs n x]; simp
theorem W3 : ∀ (l : List AObj) (i : Nat) (k : AObj → α), Q81 E l i k = (match l[i]? with
  | some o => k o
  | none => E.fail)
 | [], i, k => by show E.fail = _; simp
 | v :: vs, 0, k => by show k v = _; simp
 | v :: vs, n + 1, k => by show Q81 E vs n k = _; rw [W3 vs n k]; simp
theorem Q5f {β : Type} (x : β) : ∀ (n : Nat) (k : List β → α), Qfs x n k = k (List.replicate n x)
 | 0, k => by show k [] = _; simp
 | n + 1, k => by show Qfs x n (fun r => k (x :: r)) = _; rw [Q5f x n]; simp [List.replicate_succ]
theorem Qq (tm : List AV) (k : AV → α) (x : Opd) : Y1 tm k x = k (Q2 tm x) := by
 cases x <;> simp [Y1, Q2, U0]
theorem Xp (tm : List AV) : ∀ (l : List Opd) (k : List AV → α), Q4b tm l k = k (l.map (Q2 tm))
 | [], k => by simp [Qce]
 | x :: r, k => by simp [Qap, Qq, Xp tm r]
theorem Q8p (tm : List AV) (k : Option AV → α) (x : Option Opd) : Qdo tm k x = k (x.map (Q2 tm)) := by
 cases x <;> simp [Qdo, Qq]

theorem Q3r (k : List AV → α) (v : AV) : Q4x E k v = (match v.cells? with
  | some cs => k cs
  | none => E.fail) := by
 unfold Q4x AV.cells?
 split <;> simp_all [Ya]
theorem Qd9 (k : List AV → α) (v : AV) : Qhk E k v = (match v.aggs? with
  | some cs => k cs
  | none => E.fail) := by
 unfold Qhk AV.aggs?
 split <;> simp_all [Ya]
end
end
end Go.Av
