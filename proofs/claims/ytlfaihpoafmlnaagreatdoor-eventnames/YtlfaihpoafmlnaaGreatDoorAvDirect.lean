/- An abstract machine for the modelled code, and what its runs say of real calls. Part of a proof of a given statement: for every input the law returns true and the arguments read as before; no condition beyond the given row. -/
import Derived.Test.YtlfaihpoafmlnaaGreatDoorAvBase
namespace Go.Av
noncomputable section
universe u
def plc (hp : List AObj) (na : Nat) (o : AObj) : List AObj := if na = hp.length then hp ++ [o] else hp.set na o
theorem Ya {H : List AObj} {na : Nat} (h : na ≤ H.length) (o : AObj) (x : Nat) : (plc H na o)[x]? = if x = na then some o else H[x]? := by
 unfold plc
 by_cases hn : na = H.length
 ·subst hn
  rw [if_pos rfl]
  by_cases hx : x = H.length
  ·subst hx; simp
  ·rw [if_neg hx]
   by_cases hlt : x < H.length
   ·rw [List.getElem?_append_left hlt]
   ·rw [List.getElem?_eq_none (by simp; omega), List.getElem?_eq_none (by omega)]
 ·rw [if_neg hn]
  by_cases hx : x = na
  ·subst hx; rw [if_pos rfl, List.getElem?_set_self (by omega)]
  ·rw [if_neg hx, List.getElem?_set_ne (fun e => hx e.symm)]
theorem Zw {H : List AObj} {na : Nat} (o : AObj) : H.length ≤ (plc H na o).length ∧ (na ≤ H.length → na < (plc H na o).length) := by
 unfold plc
 split <;> simp <;> omega

section
variable {α : Type u} (E : Env α)

def Q2 (tm : List AV) : Opd → AV
 | .t i => tm.getD i .any
 | .c v => .p v
 | .g i => .gptr i 0
 | .f i => .p (.func (.func i) [] [])

theorem Zu : ∀ (l : List AV) (i : Nat) (k : AV → α), Q3l l i k = k (l.getD i .any)
 | [], i, k => by show k .any = _; simp
 | v :: vs, 0, k => by show k v = _; simp
 | v :: vs, n + 1, k => by show Q3l vs n k = _; rw [Zu vs n k]; simp
theorem Xo : ∀ (l : List AV) (i : Nat) (x : AV) (k : List AV → α), Q3c l i x k = k (l.set i x)
 | [], i, x, k => by show k [] = _; simp
 | v :: vs, 0, x, k => by show k (x :: vs) = _; simp
 | v :: vs, n + 1, x, k => by show Q3c vs n x (fun vs => k (v :: vs)) = _; rw [Xo vs n x]; simp
theorem W4 {β : Type} : ∀ (n : Nat) (l : List β) (k : List β → α), Q2t n l k = k (l.take n)
 | 0, l, k => by show k [] = _; simp
 | n + 1, [], k => by show k [] = _; simp
 | n + 1, v :: vs, k => by show Q2t n vs (fun vs => k (v :: vs)) = _; rw [W4 n vs]; simp
theorem Zn {β : Type} : ∀ (n : Nat) (l : List β) (k : List β → α), Vm n l k = k (l.drop n)
 | 0, l, k => by show k l = _; simp
 | n + 1, [], k => by show k [] = _; simp
 | n + 1, v :: vs, k => by show Vm n vs k = _; rw [Zn n vs]; simp
theorem Zc {β : Type} : ∀ (a b : List β) (k : List β → α), Q0j a b k = k (a ++ b)
 | [], b, k => by show k b = _; simp
 | v :: vs, b, k => by show Q0j vs b (fun r => k (v :: r)) = _; rw [Zc vs]; simp
theorem Ql {β γ : Type} (f : β → γ) : ∀ (a : List β) (k : List γ → α), Vc f a k = k (a.map f)
 | [], k => by show k [] = _; simp
 | v :: vs, k => by show Vc f vs (fun r => k (f v :: r)) = _; rw [Ql f vs]; simp
theorem Xm : ∀ (l : List AObj) (i : Nat) (x : AObj) (k : List AObj → α), Q4l l i x k = k (l.set i x)
 | [], i, x, k => by show k [] = _; simp
 | v :: vs, 0, x, k => by show k (x :: vs) = _; simp
 | v :: vs, n + 1, x, k => by show Q4l vs n x (fun vs => k (v :: vs)) = _; rw [Xm vs n x]; simp
theorem Z7 : ∀ (l : List AObj) (i : Nat) (k : AObj → α), Q0i E l i k = (match l[i]? with
  | some o => k o
  | none => E.fail)
 | [], i, k => by show E.fail = _; simp
 | v :: vs, 0, k => by show k v = _; simp
 | v :: vs, n + 1, k => by show Q0i E vs n k = _; rw [Z7 vs n k]; simp
theorem Jj {β : Type} (x : β) : ∀ (n : Nat) (k : List β → α), Q68 x n k = k (List.replicate n x)
 | 0, k => by show k [] = _; simp
 | n + 1, k => by show Q68 x n (fun r => k (x :: r)) = _; rw [Jj x n]; simp [List.replicate_succ]
theorem Q8 (tm : List AV) (k : AV → α) (x : Opd) : Qi tm k x = k (Q2 tm x) := by
 cases x <;> simp [Qi, Q2, Zu]
theorem Qx (tm : List AV) : ∀ (l : List Opd) (k : List AV → α), Un tm l k = k (l.map (Q2 tm))
 | [], k => by simp [Q3r]
 | x :: r, k => by simp [Q2n, Q8, Qx tm r]
theorem Q17 (tm : List AV) (k : Option AV → α) (x : Option Opd) : Q4p tm k x = k (x.map (Q2 tm)) := by
 cases x <;> simp [Q4p, Q8]

theorem Vg (k : List AV → α) (v : AV) : J4 E k v = (match v.cells? with
  | some cs => k cs
  | none => E.fail) := by
 unfold J4 AV.cells?
 split <;> simp_all [Ql]
theorem Q3f (k : List AV → α) (v : AV) : Q7e E k v = (match v.aggs? with
  | some cs => k cs
  | none => E.fail) := by
 unfold Q7e AV.aggs?
 split <;> simp_all [Ql]
end
end
end Go.Av
