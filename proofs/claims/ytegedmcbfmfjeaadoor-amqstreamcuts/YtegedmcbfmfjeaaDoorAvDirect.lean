/- An abstract machine for the modelled code, and what its runs say of real calls. Part of a proof of a given statement: for every input the law returns true and the arguments read as before; no condition beyond the given row. -/
import Derived.Test.YtegedmcbfmfjeaaDoorAvBase
namespace Go.Av
noncomputable section
universe u
def plc (hp : List AObj) (na : Nat) (o : AObj) : List AObj := if na = hp.length then hp ++ [o] else hp.set na o
theorem Jb {H : List AObj} {na : Nat} (h : na ≤ H.length) (o : AObj) (x : Nat) : (plc H na o)[x]? = if x = na then some o else H[x]? := by
 unfold plc
 by_cases hn : na = H.length
 ·subst hn
  rw [if_pos rfl]
  by_cases hx : x = H.length
  ·subst hx; simp
  ·rw [if_neg hx]
   by_cases hlt : x < H.length
   ·rw [List.getElem?_append_left hlt]
   ·rw [List.getElem?_eq_none (by simp; omega), List.getElem?_eq_none (by omega)]
 ·rw [if_neg hn]
  by_cases hx : x = na
  ·subst hx; rw [if_pos rfl, List.getElem?_set_self (by omega)]
  ·rw [if_neg hx, List.getElem?_set_ne (fun e => hx e.symm)]
theorem U9 {H : List AObj} {na : Nat} (o : AObj) : H.length ≤ (plc H na o).length ∧ (na ≤ H.length → na < (plc H na o).length) := by
 unfold plc
 split <;> simp <;> omega

section
variable {α : Type u} (E : Env α)

def Q5 (tm : List AV) : Opd → AV
 | .t i => tm.getD i .any
 | .c v => .p v
 | .g i => .gptr i 0
 | .f i => .p (.func (.func i) [] [])

theorem Vo : ∀ (l : List AV) (i : Nat) (k : AV → α), Qd9 l i k = k (l.getD i .any)
 | [], i, k => by show k .any = _; simp
 | v :: vs, 0, k => by show k v = _; simp
 | v :: vs, n + 1, k => by show Qd9 vs n k = _; rw [Vo vs n k]; simp
theorem Gm : ∀ (l : List AV) (i : Nat) (x : AV) (k : List AV → α), Qee l i x k = k (l.set i x)
 | [], i, x, k => by show k [] = _; simp
 | v :: vs, 0, x, k => by show k (x :: vs) = _; simp
 | v :: vs, n + 1, x, k => by show Qee vs n x (fun vs => k (v :: vs)) = _; rw [Gm vs n x]; simp
theorem Gr {β : Type} : ∀ (n : Nat) (l : List β) (k : List β → α), Qa2 n l k = k (l.take n)
 | 0, l, k => by show k [] = _; simp
 | n + 1, [], k => by show k [] = _; simp
 | n + 1, v :: vs, k => by show Qa2 n vs (fun vs => k (v :: vs)) = _; rw [Gr n vs]; simp
theorem Xx {β : Type} : ∀ (n : Nat) (l : List β) (k : List β → α), Q0b n l k = k (l.drop n)
 | 0, l, k => by show k l = _; simp
 | n + 1, [], k => by show k [] = _; simp
 | n + 1, v :: vs, k => by show Q0b n vs k = _; rw [Xx n vs]; simp
theorem V2 {β : Type} : ∀ (a b : List β) (k : List β → α), Q80 a b k = k (a ++ b)
 | [], b, k => by show k b = _; simp
 | v :: vs, b, k => by show Q80 vs b (fun r => k (v :: r)) = _; rw [V2 vs]; simp
theorem Ym {β γ : Type} (f : β → γ) : ∀ (a : List β) (k : List γ → α), Q2i f a k = k (a.map f)
 | [], k => by show k [] = _; simp
 | v :: vs, k => by show Q2i f vs (fun r => k (f v :: r)) = _; rw [Ym f vs]; simp
theorem Q25 : ∀ (l : List AObj) (i : Nat) (x : AObj) (k : List AObj → α), Qgw l i x k = k (l.set i x)
 | [], i, x, k => by show k [] = _; simp
 | v :: vs, 0, x, k => by show k (x :: vs) = _; simp
 | v :: vs, n + 1, x, k => by show Qgw vs n x (fun vs => k (v :: vs)) = _; rw [Q25 vs n x]; simp
theorem Ve : ∀ (l : List AObj) (i : Nat) (k : AObj → α), Qaj E l i k = (match l[i]? with
  | some o => k o
  | none => E.fail)
 | [], i, k => by show E.fail = _; simp
 | v :: vs, 0, k => by show k v = _; simp
 | v :: vs, n + 1, k => by show Qaj E vs n k = _; rw [Ve vs n k]; simp
theorem Q6y {β : Type} (x : β) : ∀ (n : Nat) (k : List β → α), Qjd x n k = k (List.replicate n x)
 | 0, k => by show k [] = _; simp
 | n + 1, k => by show Qjd x n (fun r => k (x :: r)) = _; rw [Q6y x n]; simp [List.replicate_succ]
theorem Qz (tm : List AV) (k : AV → α) (x : Opd) : X8 tm k x = k (Q5 tm x) := by
 cases x <;> simp [X8, Q5, Vo]
theorem W7 (tm : List AV) : ∀ (l : List Opd) (k : List AV → α), Q5h tm l k = k (l.map (Q5 tm))
 | [], k => by simp [Qer]
 | x :: r, k => by simp [Qcq, Qz, W7 tm r]
theorem Q9r (tm : List AV) (k : Option AV → α) (x : Option Opd) : Qfz tm k x = k (x.map (Q5 tm)) := by
 cases x <;> simp [Qfz, Qz]

theorem Q3o (k : List AV → α) (v : AV) : Q5z E k v = (match v.cells? with
  | some cs => k cs
  | none => E.fail) := by
 unfold Q5z AV.cells?
 split <;> simp_all [Ym]
theorem Qdf (k : List AV → α) (v : AV) : Ql2 E k v = (match v.aggs? with
  | some cs => k cs
  | none => E.fail) := by
 unfold Ql2 AV.aggs?
 split <;> simp_all [Ym]
end
end
end Go.Av
