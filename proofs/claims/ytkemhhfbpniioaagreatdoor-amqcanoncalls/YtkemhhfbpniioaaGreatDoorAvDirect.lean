/- An abstract machine for the modelled code, and what its runs say of real calls. Part of a proof of a given statement: for every input the law returns true and the arguments read as before; no condition beyond the given row. -/
import Derived.Test.YtkemhhfbpniioaaGreatDoorAvBase
namespace Go.Av
noncomputable section
universe u
def plc (hp : List AObj) (na : Nat) (o : AObj) : List AObj := if na = hp.length then hp ++ [o] else hp.set na o
theorem Q4d {H : List AObj} {na : Nat} (h : na ≤ H.length) (o : AObj) (x : Nat) : (plc H na o)[x]? = if x = na then some o else H[x]? := by
 unfold plc
 by_cases hn : na = H.length
 ·subst hn
  rw [if_pos rfl]
  by_cases hx : x = H.length
  ·subst hx; simp
  ·rw [if_neg hx]
   by_cases hlt : x < H.length
   ·rw [List.getElem?_append_left hlt]
   ·rw [List.getElem?_eq_none (by simp; omega), List.getElem?_eq_none (by omega)]
 ·rw [if_neg hn]
  by_cases hx : x = na
  ·subst hx; rw [if_pos rfl, List.getElem?_set_self (by omega)]
  ·rw [if_neg hx, List.getElem?_set_ne (fun e => hx e.symm)]
theorem Q2a {H : List AObj} {na : Nat} (o : AObj) : H.length ≤ (plc H na o).length ∧ (na ≤ H.length → na < (plc H na o).length) := by
 unfold plc
 split <;> simp <;> omega

section
variable {α : Type u} (E : Env α)

def Q9 (tm : List AV) : Opd → AV
 | .t i => tm.getD i .any
 | .c v => .p v
 | .g i => .gptr i 0
 | .f i => .p (.func (.func i) [] [])

theorem Q2b : ∀ (l : List AV) (i : Nat) (k : AV → α), Qnz l i k = k (l.getD i .any)
 | [], i, k => by show k .any = _; simp
 | v :: vs, 0, k => by show k v = _; simp
 | v :: vs, n + 1, k => by show Qnz vs n k = _; rw [Q2b vs n k]; simp
theorem Q7g : ∀ (l : List AV) (i : Nat) (x : AV) (k : List AV → α), Qos l i x k = k (l.set i x)
 | [], i, x, k => by show k [] = _; simp
 | v :: vs, 0, x, k => by show k (x :: vs) = _; simp
 | v :: vs, n + 1, x, k => by show Qos vs n x (fun vs => k (v :: vs)) = _; rw [Q7g vs n x]; simp
theorem Q80 {β : Type} : ∀ (n : Nat) (l : List β) (k : List β → α), Qls n l k = k (l.take n)
 | 0, l, k => by show k [] = _; simp
 | n + 1, [], k => by show k [] = _; simp
 | n + 1, v :: vs, k => by show Qls n vs (fun vs => k (v :: vs)) = _; rw [Q80 n vs]; simp
theorem Gu {β : Type} : ∀ (n : Nat) (l : List β) (k : List β → α), Q90 n l k = k (l.drop n)
 | 0, l, k => by show k l = _; simp
 | n + 1, [], k => by show k [] = _; simp
 | n + 1, v :: vs, k => by show Q90 n vs k = _; rw [Gu n vs]; simp
theorem Q0q {β : Type} : ∀ (a b : List β) (k : List β → α), Qg9 a b k = k (a ++ b)
 | [], b, k => by show k b = _; simp
 | v :: vs, b, k => by show Qg9 vs b (fun r => k (v :: r)) = _; rw [Q0q vs]; simp
theorem Ug {β γ : Type} (f : β → γ) : ∀ (a : List β) (k : List γ → α), Q9i f a k = k (a.map f)
 | [], k => by show k [] = _; simp
 | v :: vs, k => by show Q9i f vs (fun r => k (f v :: r)) = _; rw [Ug f vs]; simp
theorem Q94 : ∀ (l : List AObj) (i : Nat) (x : AObj) (k : List AObj → α), Qq3 l i x k = k (l.set i x)
 | [], i, x, k => by show k [] = _; simp
 | v :: vs, 0, x, k => by show k (x :: vs) = _; simp
 | v :: vs, n + 1, x, k => by show Qq3 vs n x (fun vs => k (v :: vs)) = _; rw [Q94 vs n x]; simp
theorem Q0x : ∀ (l : List AObj) (i : Nat) (k : AObj → α), Qid E l i k = (match l[i]? with
  | some o => k o
  | none => E.fail)
 | [], i, k => by show E.fail = _; simp
 | v :: vs, 0, k => by show k v = _; simp
 | v :: vs, n + 1, k => by show Qid E vs n k = _; rw [Q0x vs n k]; simp
theorem Qf7 {β : Type} (x : β) : ∀ (n : Nat) (k : List β → α), Qtf x n k = k (List.replicate n x)
 | 0, k => by show k [] = _; simp
 | n + 1, k => by show Qtf x n (fun r => k (x :: r)) = _; rw [Qf7 x n]; simp [List.replicate_succ]
theorem Zh (tm : List AV) (k : AV → α) (x : Opd) : J0 tm k x = k (Q9 tm x) := by
 cases x <;> simp [J0, Q9, Q2b]
theorem Gh (tm : List AV) : ∀ (l : List Opd) (k : List AV → α), Qcx tm l k = k (l.map (Q9 tm))
 | [], k => by simp [Qpc]
 | x :: r, k => by simp [Qlh, Zh, Gh tm r]
theorem Qin (tm : List AV) (k : Option AV → α) (x : Option Opd) : Qph tm k x = k (x.map (Q9 tm)) := by
 cases x <;> simp [Qph, Zh]

theorem Qc0 (k : List AV → α) (v : AV) : Qdr E k v = (match v.cells? with
  | some cs => k cs
  | none => E.fail) := by
 unfold Qdr AV.cells?
 split <;> simp_all [Ug]
theorem Qo4 (k : List AV → α) (v : AV) : Qv7 E k v = (match v.aggs? with
  | some cs => k cs
  | none => E.fail) := by
 unfold Qv7 AV.aggs?
 split <;> simp_all [Ug]
end
end
end Go.Av
