/- An abstract machine for the modelled code, and what its runs say of real calls. Part of a proof of a given statement: for every input the law returns true and the arguments read as before; no condition beyond the given row. -/
import Derived.Test.YtmiobindnojbaaaGreatDoorAvBase
namespace Go.Av
noncomputable section
universe u
def plc (hp : List AObj) (na : Nat) (o : AObj) : List AObj := if na = hp.length then hp ++ [o] else hp.set na o
theorem G0 {H : List AObj} {na : Nat} (h : na ≤ H.length) (o : AObj) (x : Nat) : (plc H na o)[x]? = if x = na then some o else H[x]? := by
 unfold plc
 by_cases hn : na = H.length
 ·subst hn
  rw [if_pos rfl]
  by_cases hx : x = H.length
  ·subst hx; simp
  ·rw [if_neg hx]
   by_cases hlt : x < H.length
   ·rw [List.getElem?_append_left hlt]
   ·rw [List.getElem?_eq_none (by simp; omega), List.getElem?_eq_none (by omega)]
 ·rw [if_neg hn]
  by_cases hx : x = na
  ·subst hx; rw [if_pos rfl, List.getElem?_set_self (by omega)]
  ·rw [if_neg hx, List.getElem?_set_ne (fun e => hx e.symm)]
theorem Ur {H : List AObj} {na : Nat} (o : AObj) : H.length ≤ (plc H na o).length ∧ (na ≤ H.length → na < (plc H na o).length) := by
 unfold plc
 split <;> simp <;> omega

section
variable {α : Type u} (E : Env α)

def Q1 (tm : List AV) : Opd → AV
 | .t i => tm.getD i .any
 | .c v => .p v
 | .g i => .gptr i 0
 | .f i => .p (.func (.func i) [] [])
 | .m tbl i => Q7c tbl (tm.getD i .any)
 | .mm tbls i => Q9j tbls (tm.getD i .any)

theorem Uw : ∀ (l : List AV) (i : Nat) (k : AV → α), Qcg l i k = k (l.getD i .any)
 | [], i, k => by show k .any = _; simp
 | v :: vs, 0, k => by show k v = _; simp
 | v :: vs, n + 1, k => by show Qcg vs n k = _; rw [Uw vs n k]; simp
theorem Q17 : ∀ (l : List AV) (i : Nat) (x : AV) (k : List AV → α), Qen l i x k = k (l.set i x)
 | [], i, x, k => by show k [] = _; simp
 | v :: vs, 0, x, k => by show k (x :: vs) = _; simp
 | v :: vs, n + 1, x, k => by show Qen vs n x (fun vs => k (v :: vs)) = _; rw [Q17 vs n x]; simp
theorem Q1h {β : Type} : ∀ (n : Nat) (l : List β) (k : List β → α), Qcc n l k = k (l.take n)
 | 0, l, k => by show k [] = _; simp
 | n + 1, [], k => by show k [] = _; simp
 | n + 1, v :: vs, k => by show Qcc n vs (fun vs => k (v :: vs)) = _; rw [Q1h n vs]; simp
theorem Wr {β : Type} : ∀ (n : Nat) (l : List β) (k : List β → α), Q2i n l k = k (l.drop n)
 | 0, l, k => by show k l = _; simp
 | n + 1, [], k => by show k [] = _; simp
 | n + 1, v :: vs, k => by show Q2i n vs k = _; rw [Wr n vs]; simp
theorem Vf {β : Type} : ∀ (a b : List β) (k : List β → α), Q7z a b k = k (a ++ b)
 | [], b, k => by show k b = _; simp
 | v :: vs, b, k => by show Q7z vs b (fun r => k (v :: r)) = _; rw [Vf vs]; simp
theorem Yr {β γ : Type} (f : β → γ) : ∀ (a : List β) (k : List γ → α), Q24 f a k = k (a.map f)
 | [], k => by show k [] = _; simp
 | v :: vs, k => by show Q24 f vs (fun r => k (f v :: r)) = _; rw [Yr f vs]; simp
theorem Gv : ∀ (l : List AObj) (i : Nat) (x : AObj) (k : List AObj → α), Qcu l i x k = k (l.set i x)
 | [], i, x, k => by show k [] = _; simp
 | v :: vs, 0, x, k => by show k (x :: vs) = _; simp
 | v :: vs, n + 1, x, k => by show Qcu vs n x (fun vs => k (v :: vs)) = _; rw [Gv vs n x]; simp
theorem Ww : ∀ (l : List AObj) (i : Nat) (k : AObj → α), Q8j E l i k = (match l[i]? with
  | some o => k o
  | none => E.fail)
 | [], i, k => by show E.fail = _; simp
 | v :: vs, 0, k => by show k v = _; simp
 | v :: vs, n + 1, k => by show Q8j E vs n k = _; rw [Ww vs n k]; simp
theorem Q6a {β : Type} (x : β) : ∀ (n : Nat) (k : List β → α), Qho x n k = k (List.replicate n x)
 | 0, k => by show k [] = _; simp
 | n + 1, k => by show Qho x n (fun r => k (x :: r)) = _; rw [Q6a x n]; simp [List.replicate_succ]
theorem Qk (tm : List AV) (k : AV → α) (x : Opd) : Yk tm k x = k (Q1 tm x) := by
 cases x <;> simp [Yk, Q1, Uw]
theorem Wg (tm : List AV) : ∀ (l : List Opd) (k : List AV → α), Q58 tm l k = k (l.map (Q1 tm))
 | [], k => by simp [Qeu]
 | x :: r, k => by simp [Qcn, Qk, Wg tm r]
theorem Q9n (tm : List AV) (k : Option AV → α) (x : Option Opd) : Qez tm k x = k (x.map (Q1 tm)) := by
 cases x <;> simp [Qez, Qk]

theorem Q4i (k : List AV → α) (v : AV) : Q5e E k v = (match v.cells? with
  | some cs => k cs
  | none => E.fail) := by
 unfold Q5e AV.cells?
 split <;> simp_all [Yr]
theorem Qdi (k : List AV → α) (v : AV) : Qkk E k v = (match v.aggs? with
  | some cs => k cs
  | none => E.fail) := by
 unfold Qkk AV.aggs?
 split <;> simp_all [Yr]
end
end
end Go.Av
