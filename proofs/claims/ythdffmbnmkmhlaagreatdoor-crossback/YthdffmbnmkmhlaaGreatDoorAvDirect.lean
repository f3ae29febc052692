/- Part of the proof of CrossBack: for every input the law returns true; no condition. -/
import Derived.Test.YthdffmbnmkmhlaaGreatDoorAvBase
namespace Go.Av
noncomputable section
universe u
def plc (hp : List AObj) (na : Nat) (o : AObj) : List AObj := if na = hp.length then hp ++ [o] else hp.set na o
theorem Q60 {H : List AObj} {na : Nat} (h : na ≤ H.length) (o : AObj) (x : Nat) : (plc H na o)[x]? = if x = na then some o else H[x]? := by
 unfold plc
 by_cases hn : na = H.length
 ·subst hn;rw [if_pos rfl]
  by_cases hx : x = H.length
  ·subst hx; simp
  rw [if_neg hx]
  by_cases hlt : x < H.length
  ·rw [Lr hlt]
  rw [Nu (by simp; omega), Nu (by omega)]
 rw [if_neg hn]
 by_cases hx : x = na
 ·subst hx; rw [if_pos rfl, Ls (by omega)]
 rw [if_neg hx, Lo (fun e => hx e.symm)]
theorem Q7i {H : List AObj} {na : Nat} (o : AObj) : H.length ≤ (plc H na o).length ∧ (na ≤ H.length → na < (plc H na o).length) := by
 unfold plc
 split <;> simp <;> omega

section
variable {α : Type u} (E : Env α)

def Q4 (tm : List AV) : Opd → AV
 | .t i => tm.getD i .any
 | .c v => .p v
 | .g i => .gptr i 0
 | .f i => .p (.func (.func i) [] [])
 | .m tbl i => Qiq tbl (tm.getD i .any)
 | .mm tbls i => Qn9 tbls (tm.getD i .any)

theorem Q3j : ∀ (l : List AV) (i : Nat) (k : AV → α), Qq0 l i k = k (l.getD i .any)
 | [], i, k => by show k .any = _; simp
 | v :: vs, 0, k => by show k v = _; simp
 | v :: vs, n + 1, k => by show Qq0 vs n k = _; rw [Q3j vs n k]; simp
theorem Q9n : ∀ (l : List AV) (i : Nat) (x : AV) (k : List AV → α), Qt0 l i x k = k (l.set i x)
 | [], i, x, k => by show k [] = _; simp
 | v :: vs, 0, x, k => by show k (x :: vs) = _; simp
 | v :: vs, n + 1, x, k => by show Qt0 vs n x (fun vs => k (v :: vs)) = _; rw [Q9n vs n x]; simp
theorem Qan {β : Type} : ∀ (n : Nat) (l : List β) (k : List β → α), Qqa n l k = k (l.take n)
 | 0, l, k => by show k [] = _; simp
 | n + 1, [], k => by show k [] = _; simp
 | n + 1, v :: vs, k => by show Qqa n vs (fun vs => k (v :: vs)) = _; rw [Qan n vs]; simp
theorem Q0r {β : Type} : ∀ (n : Nat) (l : List β) (k : List β → α), Qbh n l k = k (l.drop n)
 | 0, l, k => by show k l = _; simp
 | n + 1, [], k => by show k [] = _; simp
 | n + 1, v :: vs, k => by show Qbh n vs k = _; rw [Q0r n vs]; simp
theorem Q1n {β : Type} : ∀ (a b : List β) (k : List β → α), Qk9 a b k = k (a ++ b)
 | [], b, k => by show k b = _; simp
 | v :: vs, b, k => by show Qk9 vs b (fun r => k (v :: r)) = _; rw [Q1n vs]; simp
theorem U9 {β γ : Type} (f : β → γ) : ∀ (a : List β) (k : List γ → α), Qb9 f a k = k (a.map f)
 | [], k => by show k [] = _; simp
 | v :: vs, k => by show Qb9 f vs (fun r => k (f v :: r)) = _; rw [U9 f vs]; simp
theorem Q73 : ∀ (l : List AObj) (i : Nat) (x : AObj) (k : List AObj → α), Qrg l i x k = k (l.set i x)
 | [], i, x, k => by show k [] = _; simp
 | v :: vs, 0, x, k => by show k (x :: vs) = _; simp
 | v :: vs, n + 1, x, k => by show Qrg vs n x (fun vs => k (v :: vs)) = _; rw [Q73 vs n x]; simp
theorem Q10 : ∀ (l : List AObj) (i : Nat) (k : AObj → α), Qk1 E l i k = (match l[i]? with
  | some o => k o
  | none => E.fail)
 | [], i, k => by show E.fail = _; simp
 | v :: vs, 0, k => by show k v = _; simp
 | v :: vs, n + 1, k => by show Qk1 E vs n k = _; rw [Q10 vs n k]; simp
theorem Qi6 {β : Type} (x : β) : ∀ (n : Nat) (k : List β → α), Z1d x n k = k (List.replicate n x)
 | 0, k => by show k [] = _; simp
 | n + 1, k => by show Z1d x n (fun r => k (x :: r)) = _; rw [Qi6 x n]; simp [List.replicate_succ]
theorem Qs (tm : List AV) (k : AV → α) (x : Opd) : Vl tm k x = k (Q4 tm x) := by
 cases x <;> simp [Vl, Q4, Q3j]
theorem Q0c (tm : List AV) : ∀ (l : List Opd) (k : List AV → α), Qfj tm l k = k (l.map (Q4 tm))
 | [], k => by simp [Qu8]
 | x :: r, k => by simp [Qqn, Qs, Q0c tm r]
theorem Qn6 (tm : List AV) (k : Option AV → α) (x : Option Opd) : Qvb tm k x = k (x.map (Q4 tm)) := by
 cases x <;> simp [Qvb, Qs]

theorem Qfc (k : List AV → α) (v : AV) : Qgw E k v = (match v.cells? with
  | some cs => k cs
  | none => E.fail) := by
 unfold Qgw AV.cells?
 split <;> simp_all [U9]
theorem Qs5 (k : List AV → α) (v : AV) : Z2m E k v = (match v.aggs? with
  | some cs => k cs
  | none => E.fail) := by
 unfold Z2m AV.aggs?
 split <;> simp_all [U9]
end
end
end Go.Av
