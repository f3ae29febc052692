/- An abstract machine for the modelled code, and what its runs say of real calls. Part of a proof of a given statement: for every input the law returns true and the arguments read as before; no condition beyond the given row. -/
import Derived.Test.YtdlmgpphppgcjaaGreatDoorAvBase
namespace Go.Av
noncomputable section
universe u
def plc (hp : List AObj) (na : Nat) (o : AObj) : List AObj := if na = hp.length then hp ++ [o] else hp.set na o
theorem Yb {H : List AObj} {na : Nat} (h : na ≤ H.length) (o : AObj) (x : Nat) : (plc H na o)[x]? = if x = na then some o else H[x]? := by
 unfold plc
 by_cases hn : na = H.length
 ·subst hn
  rw [if_pos rfl]
  by_cases hx : x = H.length
  ·subst hx; simp
  ·rw [if_neg hx]
   by_cases hlt : x < H.length
   ·rw [List.getElem?_append_left hlt]
   ·rw [List.getElem?_eq_none (by simp; omega), List.getElem?_eq_none (by omega)]
 ·rw [if_neg hn]
  by_cases hx : x = na
  ·subst hx; rw [if_pos rfl, List.getElem?_set_self (by omega)]
  ·rw [if_neg hx, List.getElem?_set_ne (fun e => hx e.symm)]
theorem Zv {H : List AObj} {na : Nat} (o : AObj) : H.length ≤ (plc H na o).length ∧ (na ≤ H.length → na < (plc H na o).length) := by
 unfold plc
 split <;> simp <;> omega

section
variable {α : Type u} (E : Env α)

def Q2 (tm : List AV) : Opd → AV
 | .t i => tm.getD i .any
 | .c v => .p v
 | .g i => .gptr i 0
 | .f i => .p (.func (.func i) [] [])

theorem Zw : ∀ (l : List AV) (i : Nat) (k : AV → α), Q4c l i k = k (l.getD i .any)
 | [], i, k => by show k .any = _; simp
 | v :: vs, 0, k => by show k v = _; simp
 | v :: vs, n + 1, k => by show Q4c vs n k = _; rw [Zw vs n k]; simp
theorem Xo : ∀ (l : List AV) (i : Nat) (x : AV) (k : List AV → α), Q3w l i x k = k (l.set i x)
 | [], i, x, k => by show k [] = _; simp
 | v :: vs, 0, x, k => by show k (x :: vs) = _; simp
 | v :: vs, n + 1, x, k => by show Q3w vs n x (fun vs => k (v :: vs)) = _; rw [Xo vs n x]; simp
theorem Wc {β : Type} : ∀ (n : Nat) (l : List β) (k : List β → α), Q2j n l k = k (l.take n)
 | 0, l, k => by show k [] = _; simp
 | n + 1, [], k => by show k [] = _; simp
 | n + 1, v :: vs, k => by show Q2j n vs (fun vs => k (v :: vs)) = _; rw [Wc n vs]; simp
theorem Zn {β : Type} : ∀ (n : Nat) (l : List β) (k : List β → α), Vt n l k = k (l.drop n)
 | 0, l, k => by show k l = _; simp
 | n + 1, [], k => by show k [] = _; simp
 | n + 1, v :: vs, k => by show Vt n vs k = _; rw [Zn n vs]; simp
theorem Zc {β : Type} : ∀ (a b : List β) (k : List β → α), Q0k a b k = k (a ++ b)
 | [], b, k => by show k b = _; simp
 | v :: vs, b, k => by show Q0k vs b (fun r => k (v :: r)) = _; rw [Zc vs]; simp
theorem Qm {β γ : Type} (f : β → γ) : ∀ (a : List β) (k : List γ → α), Vc f a k = k (a.map f)
 | [], k => by show k [] = _; simp
 | v :: vs, k => by show Vc f vs (fun r => k (f v :: r)) = _; rw [Qm f vs]; simp
theorem Xl : ∀ (l : List AObj) (i : Nat) (x : AObj) (k : List AObj → α), Q4n l i x k = k (l.set i x)
 | [], i, x, k => by show k [] = _; simp
 | v :: vs, 0, x, k => by show k (x :: vs) = _; simp
 | v :: vs, n + 1, x, k => by show Q4n vs n x (fun vs => k (v :: vs)) = _; rw [Xl vs n x]; simp
theorem Z8 : ∀ (l : List AObj) (i : Nat) (k : AObj → α), Q0j E l i k = (match l[i]? with
  | some o => k o
  | none => E.fail)
 | [], i, k => by show E.fail = _; simp
 | v :: vs, 0, k => by show k v = _; simp
 | v :: vs, n + 1, k => by show Q0j E vs n k = _; rw [Z8 vs n k]; simp
theorem Jh {β : Type} (x : β) : ∀ (n : Nat) (k : List β → α), Q6f x n k = k (List.replicate n x)
 | 0, k => by show k [] = _; simp
 | n + 1, k => by show Q6f x n (fun r => k (x :: r)) = _; rw [Jh x n]; simp [List.replicate_succ]
theorem Q8 (tm : List AV) (k : AV → α) (x : Opd) : Qh tm k x = k (Q2 tm x) := by
 cases x <;> simp [Qh, Q2, Zw]
theorem Qw (tm : List AV) : ∀ (l : List Opd) (k : List AV → α), Uj tm l k = k (l.map (Q2 tm))
 | [], k => by simp [Q4d]
 | x :: r, k => by simp [Q34, Q8, Qw tm r]
theorem Q14 (tm : List AV) (k : Option AV → α) (x : Option Opd) : Q4r tm k x = k (x.map (Q2 tm)) := by
 cases x <;> simp [Q4r, Q8]

theorem Vr (k : List AV → α) (v : AV) : Uy E k v = (match v.cells? with
  | some cs => k cs
  | none => E.fail) := by
 unfold Uy AV.cells?
 split <;> simp_all [Qm]
theorem Q42 (k : List AV → α) (v : AV) : Q83 E k v = (match v.aggs? with
  | some cs => k cs
  | none => E.fail) := by
 unfold Q83 AV.aggs?
 split <;> simp_all [Qm]
end
end
end Go.Av
