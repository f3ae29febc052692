/- An abstract machine for the modelled code, and what its runs say of real calls. Part of a proof of a given statement: for every input the law returns true and the arguments read as before; no condition beyond the given row. -/
import Derived.Test.YtkemhhfbpniioaaGreatDoorAvBase
namespace Go.Av
noncomputable section
universe u
def plc (hp : List AObj) (na : Nat) (o : AObj) : List AObj := if na = hp.length then hp ++ [o] else hp.set na o
theorem Q2i {H : List AObj} {na : Nat} (h : na ≤ H.length) (o : AObj) (x : Nat) : (plc H na o)[x]? = if x = na then some o else H[x]? := by
 unfold plc
 by_cases hn : na = H.length
 ·subst hn
  rw [if_pos rfl]
  by_cases hx : x = H.length
  ·subst hx; simp
  ·rw [if_neg hx]
   by_cases hlt : x < H.length
   ·rw [List.getElem?_append_left hlt]
   ·rw [List.getElem?_eq_none (by simp; omega), List.getElem?_eq_none (by omega)]
 ·rw [if_neg hn]
  by_cases hx : x = na
  ·subst hx; rw [if_pos rfl, List.getElem?_set_self (by omega)]
  ·rw [if_neg hx, List.getElem?_set_ne (fun e => hx e.symm)]
theorem Q0q {H : List AObj} {na : Nat} (o : AObj) : H.length ≤ (plc H na o).length ∧ (na ≤ H.length → na < (plc H na o).length) := by
 unfold plc
 split <;> simp <;> omega

section
variable {α : Type u} (E : Env α)

def Q5 (tm : List AV) : Opd → AV
 | .t i => tm.getD i .any
 | .c v => .p v
 | .g i => .gptr i 0
 | .f i => .p (.func (.func i) [] [])

theorem Q0k : ∀ (l : List AV) (i : Nat) (k : AV → α), Qmb l i k = k (l.getD i .any)
 | [], i, k => by show k .any = _; simp
 | v :: vs, 0, k => by show k v = _; simp
 | v :: vs, n + 1, k => by show Qmb vs n k = _; rw [Q0k vs n k]; simp
theorem Q5c : ∀ (l : List AV) (i : Nat) (x : AV) (k : List AV → α), Ql4 l i x k = k (l.set i x)
 | [], i, x, k => by show k [] = _; simp
 | v :: vs, 0, x, k => by show k (x :: vs) = _; simp
 | v :: vs, n + 1, x, k => by show Ql4 vs n x (fun vs => k (v :: vs)) = _; rw [Q5c vs n x]; simp
theorem Q45 {β : Type} : ∀ (n : Nat) (l : List β) (k : List β → α), Qiu n l k = k (l.take n)
 | 0, l, k => by show k [] = _; simp
 | n + 1, [], k => by show k [] = _; simp
 | n + 1, v :: vs, k => by show Qiu n vs (fun vs => k (v :: vs)) = _; rw [Q45 n vs]; simp
theorem Jc {β : Type} : ∀ (n : Nat) (l : List β) (k : List β → α), Q6v n l k = k (l.drop n)
 | 0, l, k => by show k l = _; simp
 | n + 1, [], k => by show k [] = _; simp
 | n + 1, v :: vs, k => by show Q6v n vs k = _; rw [Jc n vs]; simp
theorem Jw {β : Type} : ∀ (a b : List β) (k : List β → α), Qdk a b k = k (a ++ b)
 | [], b, k => by show k b = _; simp
 | v :: vs, b, k => by show Qdk vs b (fun r => k (v :: r)) = _; rw [Jw vs]; simp
theorem V8 {β γ : Type} (f : β → γ) : ∀ (a : List β) (k : List γ → α), Q7j f a k = k (a.map f)
 | [], k => by show k [] = _; simp
 | v :: vs, k => by show Q7j f vs (fun r => k (f v :: r)) = _; rw [V8 f vs]; simp
theorem Q6i : ∀ (l : List AObj) (i : Nat) (x : AObj) (k : List AObj → α), Qn4 l i x k = k (l.set i x)
 | [], i, x, k => by show k [] = _; simp
 | v :: vs, 0, x, k => by show k (x :: vs) = _; simp
 | v :: vs, n + 1, x, k => by show Qn4 vs n x (fun vs => k (v :: vs)) = _; rw [Q6i vs n x]; simp
theorem Gc : ∀ (l : List AObj) (i : Nat) (k : AObj → α), Qfj E l i k = (match l[i]? with
  | some o => k o
  | none => E.fail)
 | [], i, k => by show E.fail = _; simp
 | v :: vs, 0, k => by show k v = _; simp
 | v :: vs, n + 1, k => by show Qfj E vs n k = _; rw [Gc vs n k]; simp
theorem Qck {β : Type} (x : β) : ∀ (n : Nat) (k : List β → α), Qr2 x n k = k (List.replicate n x)
 | 0, k => by show k [] = _; simp
 | n + 1, k => by show Qr2 x n (fun r => k (x :: r)) = _; rw [Qck x n]; simp [List.replicate_succ]
theorem Z2 (tm : List AV) (k : AV → α) (x : Opd) : Vn tm k x = k (Q5 tm x) := by
 cases x <;> simp [Vn, Q5, Q0k]
theorem Uw (tm : List AV) : ∀ (l : List Opd) (k : List AV → α), Qa3 tm l k = k (l.map (Q5 tm))
 | [], k => by simp [Qm2]
 | x :: r, k => by simp [Qi4, Z2, Uw tm r]
theorem Qgf (tm : List AV) (k : Option AV → α) (x : Option Opd) : Qmk tm k x = k (x.map (Q5 tm)) := by
 cases x <;> simp [Qmk, Z2]

theorem Q9i (k : List AV → α) (v : AV) : Qag E k v = (match v.cells? with
  | some cs => k cs
  | none => E.fail) := by
 unfold Qag AV.cells?
 split <;> simp_all [V8]
theorem Qle (k : List AV → α) (v : AV) : Qsn E k v = (match v.aggs? with
  | some cs => k cs
  | none => E.fail) := by
 unfold Qsn AV.aggs?
 split <;> simp_all [V8]
end
end
end Go.Av
