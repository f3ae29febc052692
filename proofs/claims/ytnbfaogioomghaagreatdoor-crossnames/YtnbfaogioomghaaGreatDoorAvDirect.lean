/- Part of the proof of CrossNames: for every input the law returns true; no condition. -/
import Derived.Test.YtnbfaogioomghaaGreatDoorAvBase
namespace Go.Av
noncomputable section
universe u
def plc (hp : List AObj) (na : Nat) (o : AObj) : List AObj := if na = hp.length then hp ++ [o] else hp.set na o
theorem Uc {H : List AObj} {na : Nat} (h : na ≤ H.length) (o : AObj) (x : Nat) : (plc H na o)[x]? = if x = na then some o else H[x]? := by
 unfold plc
 by_cases hn : na = H.length
 ·subst hn;rw [if_pos rfl]
  by_cases hx : x = H.length
  ·subst hx; simp
  rw [if_neg hx]
  by_cases hlt : x < H.length
  ·rw [Li hlt]
  rw [Nk (by simp; omega), Nk (by omega)]
 rw [if_neg hn]
 by_cases hx : x = na
 ·subst hx; rw [if_pos rfl, Lk (by omega)]
 rw [if_neg hx, Lg (fun e => hx e.symm)]
theorem J1 {H : List AObj} {na : Nat} (o : AObj) : H.length ≤ (plc H na o).length ∧ (na ≤ H.length → na < (plc H na o).length) := by
 unfold plc
 split <;> simp <;> omega

section
variable {α : Type u} (E : Env α)

def Q1 (tm : List AV) : Opd → AV
 | .t i => tm.getD i .any
 | .c v => .p v
 | .g i => .gptr i 0
 | .f i => .p (.func (.func i) [] [])
 | .m tbl i => Q50 tbl (tm.getD i .any)
 | .mm tbls i => Q7y tbls (tm.getD i .any)

theorem Wk : ∀ (l : List AV) (i : Nat) (k : AV → α), Qax l i k = k (l.getD i .any)
 | [], i, k => by show k .any = _; simp
 | v :: vs, 0, k => by show k v = _; simp
 | v :: vs, n + 1, k => by show Qax vs n k = _; rw [Wk vs n k]; simp
theorem J2 : ∀ (l : List AV) (i : Nat) (x : AV) (k : List AV → α), Qbf l i x k = k (l.set i x)
 | [], i, x, k => by show k [] = _; simp
 | v :: vs, 0, x, k => by show k (x :: vs) = _; simp
 | v :: vs, n + 1, x, k => by show Qbf vs n x (fun vs => k (v :: vs)) = _; rw [J2 vs n x]; simp
theorem Gr {β : Type} : ∀ (n : Nat) (l : List β) (k : List β → α), Qaj n l k = k (l.take n)
 | 0, l, k => by show k [] = _; simp
 | n + 1, [], k => by show k [] = _; simp
 | n + 1, v :: vs, k => by show Qaj n vs (fun vs => k (v :: vs)) = _; rw [Gr n vs]; simp
theorem X4 {β : Type} : ∀ (n : Nat) (l : List β) (k : List β → α), Q0n n l k = k (l.drop n)
 | 0, l, k => by show k l = _; simp
 | n + 1, [], k => by show k [] = _; simp
 | n + 1, v :: vs, k => by show Q0n n vs k = _; rw [X4 n vs]; simp
theorem Xq {β : Type} : ∀ (a b : List β) (k : List β → α), Q71 a b k = k (a ++ b)
 | [], b, k => by show k b = _; simp
 | v :: vs, b, k => by show Q71 vs b (fun r => k (v :: r)) = _; rw [Xq vs]; simp
theorem Zb {β γ : Type} (f : β → γ) : ∀ (a : List β) (k : List γ → α), Q0f f a k = k (a.map f)
 | [], k => by show k [] = _; simp
 | v :: vs, k => by show Q0f f vs (fun r => k (f v :: r)) = _; rw [Zb f vs]; simp
theorem Um : ∀ (l : List AObj) (i : Nat) (x : AObj) (k : List AObj → α), Qay l i x k = k (l.set i x)
 | [], i, x, k => by show k [] = _; simp
 | v :: vs, 0, x, k => by show k (x :: vs) = _; simp
 | v :: vs, n + 1, x, k => by show Qay vs n x (fun vs => k (v :: vs)) = _; rw [Um vs n x]; simp
theorem X8 : ∀ (l : List AObj) (i : Nat) (k : AObj → α), Q6r E l i k = (match l[i]? with
  | some o => k o
  | none => E.fail)
 | [], i, k => by show E.fail = _; simp
 | v :: vs, 0, k => by show k v = _; simp
 | v :: vs, n + 1, k => by show Q6r E vs n k = _; rw [X8 vs n k]; simp
theorem Q4m {β : Type} (x : β) : ∀ (n : Nat) (k : List β → α), Qg3 x n k = k (List.replicate n x)
 | 0, k => by show k [] = _; simp
 | n + 1, k => by show Qg3 x n (fun r => k (x :: r)) = _; rw [Q4m x n]; simp [List.replicate_succ]
theorem Qb (tm : List AV) (k : AV → α) (x : Opd) : Qy tm k x = k (Q1 tm x) := by
 cases x <;> simp [Qy, Q1, Wk]
theorem Yt (tm : List AV) : ∀ (l : List Opd) (k : List AV → α), Q3f tm l k = k (l.map (Q1 tm))
 | [], k => by simp [Qcd]
 | x :: r, k => by simp [Qa4, Qb, Yt tm r]
theorem Q5f (tm : List AV) (k : Option AV → α) (x : Option Opd) : Qb0 tm k x = k (x.map (Q1 tm)) := by
 cases x <;> simp [Qb0, Qb]

theorem Q39 (k : List AV → α) (v : AV) : Q4d E k v = (match v.cells? with
  | some cs => k cs
  | none => E.fail) := by
 unfold Q4d AV.cells?
 split <;> simp_all [Zb]
theorem Qb3 (k : List AV → α) (v : AV) : Qi1 E k v = (match v.aggs? with
  | some cs => k cs
  | none => E.fail) := by
 unfold Qi1 AV.aggs?
 split <;> simp_all [Zb]
end
end
end Go.Av
