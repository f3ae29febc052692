/- Part of the proof of FrommqttOwn: for every input the law returns true; no condition. -/
import Derived.Test.YtpmcdjbdijjgkaaGreatDoorAvBase
namespace Go.Av
noncomputable section
universe u
def plc (hp : List AObj) (na : Nat) (o : AObj) : List AObj := if na = hp.length then hp ++ [o] else hp.set na o
theorem Q6h {H : List AObj} {na : Nat} (h : na ≤ H.length) (o : AObj) (x : Nat) : (plc H na o)[x]? = if x = na then some o else H[x]? := by
 unfold plc
 by_cases hn : na = H.length
 ·subst hn;rw [if_pos rfl]
  by_cases hx : x = H.length
  ·subst hx; simp
  rw [if_neg hx]
  by_cases hlt : x < H.length
  ·rw [Ll hlt]
  rw [No (by simp; omega), No (by omega)]
 rw [if_neg hn]
 by_cases hx : x = na
 ·subst hx; rw [if_pos rfl, Lu (by omega)]
 rw [if_neg hx, Lk (fun e => hx e.symm)]
theorem Q2g {H : List AObj} {na : Nat} (o : AObj) : H.length ≤ (plc H na o).length ∧ (na ≤ H.length → na < (plc H na o).length) := by
 unfold plc
 split <;> simp <;> omega

section
variable {α : Type u} (E : Env α)

def Q4 (tm : List AV) : Opd → AV
 | .t i => tm.getD i .any
 | .c v => .p v
 | .g i => .gptr i 0
 | .f i => .p (.func (.func i) [] [])
 | .m tbl i => Qb0 tbl (tm.getD i .any)
 | .mm tbls i => Qe5 tbls (tm.getD i .any)

theorem Q09 : ∀ (l : List AV) (i : Nat) (k : AV → α), Qho l i k = k (l.getD i .any)
 | [], i, k => by show k .any = _; simp
 | v :: vs, 0, k => by show k v = _; simp
 | v :: vs, n + 1, k => by show Qho vs n k = _; rw [Q09 vs n k]; simp
theorem Q48 : ∀ (l : List AV) (i : Nat) (x : AV) (k : List AV → α), Qjp l i x k = k (l.set i x)
 | [], i, x, k => by show k [] = _; simp
 | v :: vs, 0, x, k => by show k (x :: vs) = _; simp
 | v :: vs, n + 1, x, k => by show Qjp vs n x (fun vs => k (v :: vs)) = _; rw [Q48 vs n x]; simp
theorem Q5j {β : Type} : ∀ (n : Nat) (l : List β) (k : List β → α), Qh1 n l k = k (l.take n)
 | 0, l, k => by show k [] = _; simp
 | n + 1, [], k => by show k [] = _; simp
 | n + 1, v :: vs, k => by show Qh1 n vs (fun vs => k (v :: vs)) = _; rw [Q5j n vs]; simp
theorem Uq {β : Type} : ∀ (n : Nat) (l : List β) (k : List β → α), Q4f n l k = k (l.drop n)
 | 0, l, k => by show k l = _; simp
 | n + 1, [], k => by show k [] = _; simp
 | n + 1, v :: vs, k => by show Q4f n vs k = _; rw [Uq n vs]; simp
theorem J9 {β : Type} : ∀ (a b : List β) (k : List β → α), Qco a b k = k (a ++ b)
 | [], b, k => by show k b = _; simp
 | v :: vs, b, k => by show Qco vs b (fun r => k (v :: r)) = _; rw [J9 vs]; simp
theorem Yw {β γ : Type} (f : β → γ) : ∀ (a : List β) (k : List γ → α), Q4c f a k = k (a.map f)
 | [], k => by show k [] = _; simp
 | v :: vs, k => by show Q4c f vs (fun r => k (f v :: r)) = _; rw [Yw f vs]; simp
theorem Q2j : ∀ (l : List AObj) (i : Nat) (x : AObj) (k : List AObj → α), Qhp l i x k = k (l.set i x)
 | [], i, x, k => by show k [] = _; simp
 | v :: vs, 0, x, k => by show k (x :: vs) = _; simp
 | v :: vs, n + 1, x, k => by show Qhp vs n x (fun vs => k (v :: vs)) = _; rw [Q2j vs n x]; simp
theorem Us : ∀ (l : List AObj) (i : Nat) (k : AObj → α), Qcf E l i k = (match l[i]? with
  | some o => k o
  | none => E.fail)
 | [], i, k => by show E.fail = _; simp
 | v :: vs, 0, k => by show k v = _; simp
 | v :: vs, n + 1, k => by show Qcf E vs n k = _; rw [Us vs n k]; simp
theorem Qbl {β : Type} (x : β) : ∀ (n : Nat) (k : List β → α), Qnv x n k = k (List.replicate n x)
 | 0, k => by show k [] = _; simp
 | n + 1, k => by show Qnv x n (fun r => k (x :: r)) = _; rw [Qbl x n]; simp [List.replicate_succ]
theorem Qi (tm : List AV) (k : AV → α) (x : Opd) : X2 tm k x = k (Q4 tm x) := by
 cases x <;> simp [X2, Q4, Q09]
theorem U2 (tm : List AV) : ∀ (l : List Opd) (k : List AV → α), Q9i tm l k = k (l.map (Q4 tm))
 | [], k => by simp [Qjd]
 | x :: r, k => by simp [Qgh, Qi, U2 tm r]
theorem Qer (tm : List AV) (k : Option AV → α) (x : Option Opd) : Qk5 tm k x = k (x.map (Q4 tm)) := by
 cases x <;> simp [Qk5, Qi]

theorem Q85 (k : List AV → α) (v : AV) : Qa6 E k v = (match v.cells? with
  | some cs => k cs
  | none => E.fail) := by
 unfold Qa6 AV.cells?
 split <;> simp_all [Yw]
theorem Qim (k : List AV → α) (v : AV) : Qog E k v = (match v.aggs? with
  | some cs => k cs
  | none => E.fail) := by
 unfold Qog AV.aggs?
 split <;> simp_all [Yw]
end
end
end Go.Av
