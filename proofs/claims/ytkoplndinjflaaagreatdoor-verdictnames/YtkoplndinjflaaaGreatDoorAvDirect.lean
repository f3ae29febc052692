/- Part of the proof of VerdictNames: for every input the law returns true; no condition. -/
import Derived.Test.YtkoplndinjflaaaGreatDoorAvBase
namespace Go.Av
noncomputable section
universe u
def plc (hp : List AObj) (na : Nat) (o : AObj) : List AObj := if na = hp.length then hp ++ [o] else hp.set na o
theorem X5 {H : List AObj} {na : Nat} (h : na ≤ H.length) (o : AObj) (x : Nat) : (plc H na o)[x]? = if x = na then some o else H[x]? := by
 unfold plc
 by_cases hn : na = H.length
 ·subst hn;rw [if_pos rfl]
  by_cases hx : x = H.length
  ·subst hx; simp
  rw [if_neg hx]
  by_cases hlt : x < H.length
  ·rw [Lh hlt]
  rw [My (by simp; omega), My (by omega)]
 rw [if_neg hn]
 by_cases hx : x = na
 ·subst hx; rw [if_pos rfl, Ll (by omega)]
 rw [if_neg hx, Lg (fun e => hx e.symm)]
theorem Xd {H : List AObj} {na : Nat} (o : AObj) : H.length ≤ (plc H na o).length ∧ (na ≤ H.length → na < (plc H na o).length) := by
 unfold plc
 split <;> simp <;> omega

section
variable {α : Type u} (E : Env α)

def Q2 (tm : List AV) : Opd → AV
 | .t i => tm.getD i .any
 | .c v => .p v
 | .g i => .gptr i 0
 | .f i => .p (.func (.func i) [] [])
 | .m tbl i => Q03 tbl (tm.getD i .any)
 | .mm tbls i => Q29 tbls (tm.getD i .any)

theorem Y0 : ∀ (l : List AV) (i : Nat) (k : AV → α), Q4p l i k = k (l.getD i .any)
 | [], i, k => by show k .any = _; simp
 | v :: vs, 0, k => by show k v = _; simp
 | v :: vs, n + 1, k => by show Q4p vs n k = _; rw [Y0 vs n k]; simp
theorem Xl : ∀ (l : List AV) (i : Nat) (x : AV) (k : List AV → α), Q5f l i x k = k (l.set i x)
 | [], i, x, k => by show k [] = _; simp
 | v :: vs, 0, x, k => by show k (x :: vs) = _; simp
 | v :: vs, n + 1, x, k => by show Q5f vs n x (fun vs => k (v :: vs)) = _; rw [Xl vs n x]; simp
theorem V5 {β : Type} : ∀ (n : Nat) (l : List β) (k : List β → α), Q42 n l k = k (l.take n)
 | 0, l, k => by show k [] = _; simp
 | n + 1, [], k => by show k [] = _; simp
 | n + 1, v :: vs, k => by show Q42 n vs (fun vs => k (v :: vs)) = _; rw [V5 n vs]; simp
theorem Y3 {β : Type} : ∀ (n : Nat) (l : List β) (k : List β → α), Ux n l k = k (l.drop n)
 | 0, l, k => by show k l = _; simp
 | n + 1, [], k => by show k [] = _; simp
 | n + 1, v :: vs, k => by show Ux n vs k = _; rw [Y3 n vs]; simp
theorem Zn {β : Type} : ∀ (a b : List β) (k : List β → α), Q22 a b k = k (a ++ b)
 | [], b, k => by show k b = _; simp
 | v :: vs, b, k => by show Q22 vs b (fun r => k (v :: r)) = _; rw [Zn vs]; simp
theorem Qn {β γ : Type} (f : β → γ) : ∀ (a : List β) (k : List γ → α), U0 f a k = k (a.map f)
 | [], k => by show k [] = _; simp
 | v :: vs, k => by show U0 f vs (fun r => k (f v :: r)) = _; rw [Qn f vs]; simp
theorem Xn : ∀ (l : List AObj) (i : Nat) (x : AObj) (k : List AObj → α), Q56 l i x k = k (l.set i x)
 | [], i, x, k => by show k [] = _; simp
 | v :: vs, 0, x, k => by show k (x :: vs) = _; simp
 | v :: vs, n + 1, x, k => by show Q56 vs n x (fun vs => k (v :: vs)) = _; rw [Xn vs n x]; simp
theorem Zb : ∀ (l : List AObj) (i : Nat) (k : AObj → α), Q1l E l i k = (match l[i]? with
  | some o => k o
  | none => E.fail)
 | [], i, k => by show E.fail = _; simp
 | v :: vs, 0, k => by show k v = _; simp
 | v :: vs, n + 1, k => by show Q1l E vs n k = _; rw [Zb vs n k]; simp
theorem Q05 {β : Type} (x : β) : ∀ (n : Nat) (k : List β → α), Q8y x n k = k (List.replicate n x)
 | 0, k => by show k [] = _; simp
 | n + 1, k => by show Q8y x n (fun r => k (x :: r)) = _; rw [Q05 x n]; simp [List.replicate_succ]
theorem Q8 (tm : List AV) (k : AV → α) (x : Opd) : Qi tm k x = k (Q2 tm x) := by
 cases x <;> simp [Qi, Q2, Y0]
theorem Z7 (tm : List AV) : ∀ (l : List Opd) (k : List AV → α), Js tm l k = k (l.map (Q2 tm))
 | [], k => by simp [Q57]
 | x :: r, k => by simp [Q4i, Q8, Z7 tm r]
theorem Q0j (tm : List AV) (k : Option AV → α) (x : Option Opd) : Q55 tm k x = k (x.map (Q2 tm)) := by
 cases x <;> simp [Q55, Q8]

theorem Ug (k : List AV → α) (v : AV) : Gi E k v = (match v.cells? with
  | some cs => k cs
  | none => E.fail) := by
 unfold Gi AV.cells?
 split <;> simp_all [Qn]
theorem Q5p (k : List AV → α) (v : AV) : Qak E k v = (match v.aggs? with
  | some cs => k cs
  | none => E.fail) := by
 unfold Qak AV.aggs?
 split <;> simp_all [Qn]
end
end
end Go.Av
