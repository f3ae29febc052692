/- Part of the proof of EventCopies: for every input the law returns true; no condition. -/
import Derived.Test.YtnbdhlnkhdhohaaGreatDoorAvBase
namespace Go.Av
noncomputable section
universe u
def plc (hp : List AObj) (na : Nat) (o : AObj) : List AObj := if na = hp.length then hp ++ [o] else hp.set na o
theorem Qdg {H : List AObj} {na : Nat} (h : na ≤ H.length) (o : AObj) (x : Nat) : (plc H na o)[x]? = if x = na then some o else H[x]? := by
 unfold plc
 by_cases hn : na = H.length
 ·subst hn;rw [if_pos rfl]
  by_cases hx : x = H.length
  ·subst hx; simp
  rw [if_neg hx]
  by_cases hlt : x < H.length
  ·rw [Lr hlt]
  rw [Nv (by simp; omega), Nv (by omega)]
 rw [if_neg hn]
 by_cases hx : x = na
 ·subst hx; rw [if_pos rfl, Mc (by omega)]
 rw [if_neg hx, Lq (fun e => hx e.symm)]
theorem Q8p {H : List AObj} {na : Nat} (o : AObj) : H.length ≤ (plc H na o).length ∧ (na ≤ H.length → na < (plc H na o).length) := by
 unfold plc
 split <;> simp <;> omega

section
variable {α : Type u} (E : Env α)

def Q6 (tm : List AV) : Opd → AV
 | .t i => tm.getD i .any
 | .c v => .p v
 | .g i => .gptr i 0
 | .f i => .p (.func (.func i) [] [])
 | .m tbl i => Qih tbl (tm.getD i .any)
 | .mm tbls i => Qmp tbls (tm.getD i .any)

theorem Q5n : ∀ (l : List AV) (i : Nat) (k : AV → α), Qq8 l i k = k (l.getD i .any)
 | [], i, k => by show k .any = _; simp
 | v :: vs, 0, k => by show k v = _; simp
 | v :: vs, n + 1, k => by show Qq8 vs n k = _; rw [Q5n vs n k]; simp
theorem Qao : ∀ (l : List AV) (i : Nat) (x : AV) (k : List AV → α), Qsi l i x k = k (l.set i x)
 | [], i, x, k => by show k [] = _; simp
 | v :: vs, 0, x, k => by show k (x :: vs) = _; simp
 | v :: vs, n + 1, x, k => by show Qsi vs n x (fun vs => k (v :: vs)) = _; rw [Qao vs n x]; simp
theorem Qce {β : Type} : ∀ (n : Nat) (l : List β) (k : List β → α), Qrk n l k = k (l.take n)
 | 0, l, k => by show k [] = _; simp
 | n + 1, [], k => by show k [] = _; simp
 | n + 1, v :: vs, k => by show Qrk n vs (fun vs => k (v :: vs)) = _; rw [Qce n vs]; simp
theorem Q20 {β : Type} : ∀ (n : Nat) (l : List β) (k : List β → α), Qcc n l k = k (l.drop n)
 | 0, l, k => by show k l = _; simp
 | n + 1, [], k => by show k [] = _; simp
 | n + 1, v :: vs, k => by show Qcc n vs k = _; rw [Q20 n vs]; simp
theorem Q2h {β : Type} : ∀ (a b : List β) (k : List β → α), Qkk a b k = k (a ++ b)
 | [], b, k => by show k b = _; simp
 | v :: vs, b, k => by show Qkk vs b (fun r => k (v :: r)) = _; rw [Q2h vs]; simp
theorem V3 {β γ : Type} (f : β → γ) : ∀ (a : List β) (k : List γ → α), Qaw f a k = k (a.map f)
 | [], k => by show k [] = _; simp
 | v :: vs, k => by show Qaw f vs (fun r => k (f v :: r)) = _; rw [V3 f vs]; simp
theorem Q91 : ∀ (l : List AObj) (i : Nat) (x : AObj) (k : List AObj → α), Qs3 l i x k = k (l.set i x)
 | [], i, x, k => by show k [] = _; simp
 | v :: vs, 0, x, k => by show k (x :: vs) = _; simp
 | v :: vs, n + 1, x, k => by show Qs3 vs n x (fun vs => k (v :: vs)) = _; rw [Q91 vs n x]; simp
theorem Q23 : ∀ (l : List AObj) (i : Nat) (k : AObj → α), Qm3 E l i k = (match l[i]? with
  | some o => k o
  | none => E.fail)
 | [], i, k => by show E.fail = _; simp
 | v :: vs, 0, k => by show k v = _; simp
 | v :: vs, n + 1, k => by show Qm3 E vs n k = _; rw [Q23 vs n k]; simp
theorem Qjl {β : Type} (x : β) : ∀ (n : Nat) (k : List β → α), Z17 x n k = k (List.replicate n x)
 | 0, k => by show k [] = _; simp
 | n + 1, k => by show Z17 x n (fun r => k (x :: r)) = _; rw [Qjl x n]; simp [List.replicate_succ]
theorem Qy (tm : List AV) (k : AV → α) (x : Opd) : V7 tm k x = k (Q6 tm x) := by
 cases x <;> simp [V7, Q6, Q5n]
theorem Q12 (tm : List AV) : ∀ (l : List Opd) (k : List AV → α), Qh4 tm l k = k (l.map (Q6 tm))
 | [], k => by simp [Qub]
 | x :: r, k => by simp [Qr6, Qy, Q12 tm r]
theorem Qnu (tm : List AV) (k : Option AV → α) (x : Option Opd) : Qvk tm k x = k (x.map (Q6 tm)) := by
 cases x <;> simp [Qvk, Qy]

theorem Qfd (k : List AV → α) (v : AV) : Qid E k v = (match v.cells? with
  | some cs => k cs
  | none => E.fail) := by
 unfold Qid AV.cells?
 split <;> simp_all [V3]
theorem Qva (k : List AV → α) (v : AV) : Z2g E k v = (match v.aggs? with
  | some cs => k cs
  | none => E.fail) := by
 unfold Z2g AV.aggs?
 split <;> simp_all [V3]
end
end
end Go.Av
