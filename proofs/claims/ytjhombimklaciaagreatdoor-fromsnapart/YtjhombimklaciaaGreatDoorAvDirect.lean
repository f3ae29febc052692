/- Part of the proof of FromsnApart: for every input the law returns true; no condition. -/
import Derived.Test.YtjhombimklaciaaGreatDoorAvBase
namespace Go.Av
noncomputable section
universe u
def plc (hp : List AObj) (na : Nat) (o : AObj) : List AObj := if na = hp.length then hp ++ [o] else hp.set na o
theorem Q25 {H : List AObj} {na : Nat} (h : na ≤ H.length) (o : AObj) (x : Nat) : (plc H na o)[x]? = if x = na then some o else H[x]? := by
 unfold plc
 by_cases hn : na = H.length
 ·subst hn;rw [if_pos rfl]
  by_cases hx : x = H.length
  ·subst hx; simp
  rw [if_neg hx]
  by_cases hlt : x < H.length
  ·rw [Lk hlt]
  rw [Mx (by simp; omega), Mx (by omega)]
 rw [if_neg hn]
 by_cases hx : x = na
 ·subst hx; rw [if_pos rfl, Lm (by omega)]
 rw [if_neg hx, Lj (fun e => hx e.symm)]
theorem Q3o {H : List AObj} {na : Nat} (o : AObj) : H.length ≤ (plc H na o).length ∧ (na ≤ H.length → na < (plc H na o).length) := by
 unfold plc
 split <;> simp <;> omega

section
variable {α : Type u} (E : Env α)

def Q4 (tm : List AV) : Opd → AV
 | .t i => tm.getD i .any
 | .c v => .p v
 | .g i => .gptr i 0
 | .f i => .p (.func (.func i) [] [])
 | .m tbl i => Qbs tbl (tm.getD i .any)
 | .mm tbls i => Qfu tbls (tm.getD i .any)

theorem G7 : ∀ (l : List AV) (i : Nat) (k : AV → α), Qin l i k = k (l.getD i .any)
 | [], i, k => by show k .any = _; simp
 | v :: vs, 0, k => by show k v = _; simp
 | v :: vs, n + 1, k => by show Qin vs n k = _; rw [G7 vs n k]; simp
theorem Q2m : ∀ (l : List AV) (i : Nat) (x : AV) (k : List AV → α), Ql4 l i x k = k (l.set i x)
 | [], i, x, k => by show k [] = _; simp
 | v :: vs, 0, x, k => by show k (x :: vs) = _; simp
 | v :: vs, n + 1, x, k => by show Ql4 vs n x (fun vs => k (v :: vs)) = _; rw [Q2m vs n x]; simp
theorem Q65 {β : Type} : ∀ (n : Nat) (l : List β) (k : List β → α), Qit n l k = k (l.take n)
 | 0, l, k => by show k [] = _; simp
 | n + 1, [], k => by show k [] = _; simp
 | n + 1, v :: vs, k => by show Qit n vs (fun vs => k (v :: vs)) = _; rw [Q65 n vs]; simp
theorem J1 {β : Type} : ∀ (n : Nat) (l : List β) (k : List β → α), Q4u n l k = k (l.drop n)
 | 0, l, k => by show k l = _; simp
 | n + 1, [], k => by show k [] = _; simp
 | n + 1, v :: vs, k => by show Q4u n vs k = _; rw [J1 n vs]; simp
theorem J7 {β : Type} : ∀ (a b : List β) (k : List β → α), Qcr a b k = k (a ++ b)
 | [], b, k => by show k b = _; simp
 | v :: vs, b, k => by show Qcr vs b (fun r => k (v :: r)) = _; rw [J7 vs]; simp
theorem Xh {β γ : Type} (f : β → γ) : ∀ (a : List β) (k : List γ → α), Q54 f a k = k (a.map f)
 | [], k => by show k [] = _; simp
 | v :: vs, k => by show Q54 f vs (fun r => k (f v :: r)) = _; rw [Xh f vs]; simp
theorem Q3l : ∀ (l : List AObj) (i : Nat) (x : AObj) (k : List AObj → α), Qjk l i x k = k (l.set i x)
 | [], i, x, k => by show k [] = _; simp
 | v :: vs, 0, x, k => by show k (x :: vs) = _; simp
 | v :: vs, n + 1, x, k => by show Qjk vs n x (fun vs => k (v :: vs)) = _; rw [Q3l vs n x]; simp
theorem J8 : ∀ (l : List AObj) (i : Nat) (k : AObj → α), Qea E l i k = (match l[i]? with
  | some o => k o
  | none => E.fail)
 | [], i, k => by show E.fail = _; simp
 | v :: vs, 0, k => by show k v = _; simp
 | v :: vs, n + 1, k => by show Qea E vs n k = _; rw [J8 vs n k]; simp
theorem Qcf {β : Type} (x : β) : ∀ (n : Nat) (k : List β → α), Qpt x n k = k (List.replicate n x)
 | 0, k => by show k [] = _; simp
 | n + 1, k => by show Qpt x n (fun r => k (x :: r)) = _; rw [Qcf x n]; simp [List.replicate_succ]
theorem Qo (tm : List AV) (k : AV → α) (x : Opd) : Xl tm k x = k (Q4 tm x) := by
 cases x <;> simp [Xl, Q4, G7]
theorem Uk (tm : List AV) : ∀ (l : List Opd) (k : List AV → α), Qa9 tm l k = k (l.map (Q4 tm))
 | [], k => by simp [Qk1]
 | x :: r, k => by simp [Qje, Qo, Uk tm r]
theorem Qcl (tm : List AV) (k : Option AV → α) (x : Option Opd) : Qjg tm k x = k (x.map (Q4 tm)) := by
 cases x <;> simp [Qjg, Qo]

theorem Q9g (k : List AV → α) (v : AV) : Qbd E k v = (match v.cells? with
  | some cs => k cs
  | none => E.fail) := by
 unfold Qbd AV.cells?
 split <;> simp_all [Xh]
theorem Qle (k : List AV → α) (v : AV) : Qt9 E k v = (match v.aggs? with
  | some cs => k cs
  | none => E.fail) := by
 unfold Qt9 AV.aggs?
 split <;> simp_all [Xh]
end
end
end Go.Av
