/- Part of the proof of EventOwn: for every input the law returns true; no condition. -/
import Derived.Test.YtnbdhlnkhdhohaaGreatDoorAvBase
namespace Go.Av
noncomputable section
universe u
def plc (hp : List AObj) (na : Nat) (o : AObj) : List AObj := if na = hp.length then hp ++ [o] else hp.set na o
theorem Qcx {H : List AObj} {na : Nat} (h : na ≤ H.length) (o : AObj) (x : Nat) : (plc H na o)[x]? = if x = na then some o else H[x]? := by
 unfold plc
 by_cases hn : na = H.length
 ·subst hn;rw [if_pos rfl]
  by_cases hx : x = H.length
  ·subst hx; simp
  rw [if_neg hx]
  by_cases hlt : x < H.length
  ·rw [Lq hlt]
  rw [Nx (by simp; omega), Nx (by omega)]
 rw [if_neg hn]
 by_cases hx : x = na
 ·subst hx; rw [if_pos rfl, Me (by omega)]
 rw [if_neg hx, Lr (fun e => hx e.symm)]
theorem Q8u {H : List AObj} {na : Nat} (o : AObj) : H.length ≤ (plc H na o).length ∧ (na ≤ H.length → na < (plc H na o).length) := by
 unfold plc
 split <;> simp <;> omega

section
variable {α : Type u} (E : Env α)

def Q6 (tm : List AV) : Opd → AV
 | .t i => tm.getD i .any
 | .c v => .p v
 | .g i => .gptr i 0
 | .f i => .p (.func (.func i) [] [])
 | .m tbl i => Qj8 tbl (tm.getD i .any)
 | .mm tbls i => Qmu tbls (tm.getD i .any)

theorem Q5b : ∀ (l : List AV) (i : Nat) (k : AV → α), Qqm l i k = k (l.getD i .any)
 | [], i, k => by show k .any = _; simp
 | v :: vs, 0, k => by show k v = _; simp
 | v :: vs, n + 1, k => by show Qqm vs n k = _; rw [Q5b vs n k]; simp
theorem Qac : ∀ (l : List AV) (i : Nat) (x : AV) (k : List AV → α), Qtt l i x k = k (l.set i x)
 | [], i, x, k => by show k [] = _; simp
 | v :: vs, 0, x, k => by show k (x :: vs) = _; simp
 | v :: vs, n + 1, x, k => by show Qtt vs n x (fun vs => k (v :: vs)) = _; rw [Qac vs n x]; simp
theorem Qc8 {β : Type} : ∀ (n : Nat) (l : List β) (k : List β → α), Qr5 n l k = k (l.take n)
 | 0, l, k => by show k [] = _; simp
 | n + 1, [], k => by show k [] = _; simp
 | n + 1, v :: vs, k => by show Qr5 n vs (fun vs => k (v :: vs)) = _; rw [Qc8 n vs]; simp
theorem Q1v {β : Type} : ∀ (n : Nat) (l : List β) (k : List β → α), Qcr n l k = k (l.drop n)
 | 0, l, k => by show k l = _; simp
 | n + 1, [], k => by show k [] = _; simp
 | n + 1, v :: vs, k => by show Qcr n vs k = _; rw [Q1v n vs]; simp
theorem Q2s {β : Type} : ∀ (a b : List β) (k : List β → α), Qla a b k = k (a ++ b)
 | [], b, k => by show k b = _; simp
 | v :: vs, b, k => by show Qla vs b (fun r => k (v :: r)) = _; rw [Q2s vs]; simp
theorem V7 {β γ : Type} (f : β → γ) : ∀ (a : List β) (k : List γ → α), Qas f a k = k (a.map f)
 | [], k => by show k [] = _; simp
 | v :: vs, k => by show Qas f vs (fun r => k (f v :: r)) = _; rw [V7 f vs]; simp
theorem Q8i : ∀ (l : List AObj) (i : Nat) (x : AObj) (k : List AObj → α), Qrw l i x k = k (l.set i x)
 | [], i, x, k => by show k [] = _; simp
 | v :: vs, 0, x, k => by show k (x :: vs) = _; simp
 | v :: vs, n + 1, x, k => by show Qrw vs n x (fun vs => k (v :: vs)) = _; rw [Q8i vs n x]; simp
theorem Q24 : ∀ (l : List AObj) (i : Nat) (k : AObj → α), Qm1 E l i k = (match l[i]? with
  | some o => k o
  | none => E.fail)
 | [], i, k => by show E.fail = _; simp
 | v :: vs, 0, k => by show k v = _; simp
 | v :: vs, n + 1, k => by show Qm1 E vs n k = _; rw [Q24 vs n k]; simp
theorem Qjc {β : Type} (x : β) : ∀ (n : Nat) (k : List β → α), Qzn x n k = k (List.replicate n x)
 | 0, k => by show k [] = _; simp
 | n + 1, k => by show Qzn x n (fun r => k (x :: r)) = _; rw [Qjc x n]; simp [List.replicate_succ]
theorem Qx (tm : List AV) (k : AV → α) (x : Opd) : Ve tm k x = k (Q6 tm x) := by
 cases x <;> simp [Ve, Q6, Q5b]
theorem Q0v (tm : List AV) : ∀ (l : List Opd) (k : List AV → α), Qh3 tm l k = k (l.map (Q6 tm))
 | [], k => by simp [Qs1]
 | x :: r, k => by simp [Qrs, Qx, Q0v tm r]
theorem Qns (tm : List AV) (k : Option AV → α) (x : Option Opd) : Qv9 tm k x = k (x.map (Q6 tm)) := by
 cases x <;> simp [Qv9, Qx]

theorem Qf0 (k : List AV → α) (v : AV) : Qhn E k v = (match v.cells? with
  | some cs => k cs
  | none => E.fail) := by
 unfold Qhn AV.cells?
 split <;> simp_all [V7]
theorem Qur (k : List AV → α) (v : AV) : Z2j E k v = (match v.aggs? with
  | some cs => k cs
  | none => E.fail) := by
 unfold Z2j AV.aggs?
 split <;> simp_all [V7]
end
end
end Go.Av
