/- An abstract machine for the modelled code, and what its runs say of real calls. Part of a proof of a given statement: for every input the law returns true and the arguments read as before; no condition beyond the given row. -/
import Derived.Test.YtkemhhfbpniioaaGreatDoorAvClosed
namespace Go.Av
noncomputable section
mutual
theorem Qgt {K : Nat → Prop} {H : List AObj} : ∀ (v : AV) (x : PV), AV.toPV v = some x → Frz K H v x
 | .p y, x, h => by simp only [AV.toPV] at h; cases h; exact .p y
 | .agg cs, x, h => by
  simp only [AV.toPV, Option.map_eq_some_iff] at h
  obtain ⟨ps, h1, rfl⟩ := h
  exact .agg' (G0 cs ps h1)
 | .tuple cs, x, h => by
  simp only [AV.toPV, Option.map_eq_some_iff] at h
  obtain ⟨ps, h1, rfl⟩ := h
  exact .tuple' (G0 cs ps h1)
 | .func fn a b, x, h => by
  simp only [AV.toPV] at h
  split at h
  ·rename_i a' b' h1 h2
   cases h
   have q1 := G0 (K := K) (H := H) a a' h1
   have q2 := G0 (K := K) (H := H) b b' h2
   exact .func fn a b a' b' q1.1 q1.2 q2.1 q2.2
  ·cases h
 | .ptr _ _, _, h => by simp [AV.toPV] at h
 | .gptr _ _, _, h => by simp [AV.toPV] at h
 | .rptr _, _, h => by simp [AV.toPV] at h
 | .slice _ _ _ _, _, h => by simp [AV.toPV] at h
 | .map _, _, h => by simp [AV.toPV] at h
 | .any, _, h => by simp [AV.toPV] at h
 | .iface t v, x, h => by
  simp only [AV.toPV, Option.map_eq_some_iff] at h
  obtain ⟨y, h1, rfl⟩ := h
  exact .iface t v y (Qgt v y h1)
theorem G0 {K : Nat → Prop} {H : List AObj} : ∀ (vs : List AV) (xs : List PV), AV.toPVs vs = some xs → FrzL K H vs xs
 | [], xs, h => by simp only [AV.toPVs] at h; cases h; exact .nil
 | v :: vs, xs, h => by
  simp only [AV.toPVs] at h
  split at h
  ·rename_i x xs' h1 h2
   cases h
   exact .cons (Qgt v x h1) (G0 vs xs' h2)
  ·cases h
end

def Q4k (n : Nat) : Nat → List PV → List (List PV)
 | 0, _ => []
 | k + 1, l => l.take n :: Q4k n k (l.drop n)
theorem Qaw (n : Nat) : ∀ (k : Nat) (l : List PV), (Q4k n k l).length = k
 | 0, _ => rfl
 | k + 1, l => by simp [Q4k, Qaw n k]
theorem Qbi {n : Nat} : ∀ (k : Nat) (l : List PV), l.length = k * n → ∀ r ∈ Q4k n k l, r.length = n
 | 0, _, _ => fun r h => by simp [Q4k] at h
 | k + 1, l, hl => fun r h => by
  rw [Nat.succ_mul] at hl
  simp only [Q4k, List.mem_cons] at h
  rcases h with rfl | h
  ·rw [List.length_take]; omega
  ·exact Qbi k _ (by rw [List.length_drop]; omega) r h
theorem Q8m {n : Nat} : ∀ (k : Nat) (l : List PV), l.length = k * n → (Q4k n k l).flatten = l
 | 0, l, hl => by simp at hl; subst hl; rfl
 | k + 1, l, hl => by
  rw [Nat.succ_mul] at hl
  simp only [Q4k, List.flatten_cons]
  rw [Q8m k _ (by rw [List.length_drop]; omega), List.take_append_drop]

def Qv2 (H : List AObj) : AV → Option PV
 | .slice esz a off len => match H[a]? with
  | some (.cells cs) => match AV.toPVs ((cs.drop off).take (len * esz)) with
   | some ps => if ps.length = len * esz then some (.slice esz (Q4k esz len ps)) else none
   | none => none
  | _ => none
 | v => v.toPV
def Qri (H : List AObj) : List AV → Option (List PV)
 | [] => some []
 | v :: vs => match Qv2 H v, Qri H vs with
  | some x, some xs => some (x :: xs)
  | _, _ => none
def freeze (H : List AObj) : AV → Option PV
 | .tuple vs => (Qri H vs).map .tuple
 | .agg vs => (Qri H vs).map .agg
 | v => Qv2 H v
end
end Go.Av
