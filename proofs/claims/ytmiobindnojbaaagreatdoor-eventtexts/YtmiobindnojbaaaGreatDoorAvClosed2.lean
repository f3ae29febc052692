/- An abstract machine for the modelled code, and what its runs say of real calls. Part of a proof of a given statement: for every input the law returns true and the arguments read as before; no condition beyond the given row. -/
import Derived.Test.YtmiobindnojbaaaGreatDoorAvClosed
namespace Go.Av
noncomputable section
mutual
theorem Qax {K : Nat → Prop} {H : List AObj} : ∀ (v : AV) (x : PV), AV.toPV v = some x → Frz K H v x
 | .p y, x, h => by simp only [AV.toPV] at h; cases h; exact .p y
 | .agg cs, x, h => by
  simp only [AV.toPV, Option.map_eq_some_iff] at h
  obtain ⟨ps, h1, rfl⟩ := h
  exact .agg' (Ve cs ps h1)
 | .tuple cs, x, h => by
  simp only [AV.toPV, Option.map_eq_some_iff] at h
  obtain ⟨ps, h1, rfl⟩ := h
  exact .tuple' (Ve cs ps h1)
 | .func fn a b, x, h => by
  simp only [AV.toPV] at h
  split at h
  ·rename_i a' b' h1 h2
   cases h
   have q1 := Ve (K := K) (H := H) a a' h1
   have q2 := Ve (K := K) (H := H) b b' h2
   exact .func fn a b a' b' q1.1 q1.2 q2.1 q2.2
  ·cases h
 | .ptr _ _, _, h => by simp [AV.toPV] at h
 | .gptr _ _, _, h => by simp [AV.toPV] at h
 | .rptr _, _, h => by simp [AV.toPV] at h
 | .slice _ _ _ _, _, h => by simp [AV.toPV] at h
 | .map _, _, h => by simp [AV.toPV] at h
 | .any, _, h => by simp [AV.toPV] at h
 | .iface t v, x, h => by
  simp only [AV.toPV, Option.map_eq_some_iff] at h
  obtain ⟨y, h1, rfl⟩ := h
  exact .iface t v y (Qax v y h1)
theorem Ve {K : Nat → Prop} {H : List AObj} : ∀ (vs : List AV) (xs : List PV), AV.toPVs vs = some xs → FrzL K H vs xs
 | [], xs, h => by simp only [AV.toPVs] at h; cases h; exact .nil
 | v :: vs, xs, h => by
  simp only [AV.toPVs] at h
  split at h
  ·rename_i x xs' h1 h2
   cases h
   exact .cons (Qax v x h1) (Ve vs xs' h2)
  ·cases h
end

def Q0k (n : Nat) : Nat → List PV → List (List PV)
 | 0, _ => []
 | k + 1, l => l.take n :: Q0k n k (l.drop n)
theorem Q5h (n : Nat) : ∀ (k : Nat) (l : List PV), (Q0k n k l).length = k
 | 0, _ => rfl
 | k + 1, l => by simp [Q0k, Q5h n k]
theorem Q5g {n : Nat} : ∀ (k : Nat) (l : List PV), l.length = k * n → ∀ r ∈ Q0k n k l, r.length = n
 | 0, _, _ => fun r h => by simp [Q0k] at h
 | k + 1, l, hl => fun r h => by
  rw [Nat.succ_mul] at hl
  simp only [Q0k, List.mem_cons] at h
  rcases h with rfl | h
  ·rw [List.length_take]; omega
  ·exact Q5g k _ (by rw [List.length_drop]; omega) r h
theorem Q3p {n : Nat} : ∀ (k : Nat) (l : List PV), l.length = k * n → (Q0k n k l).flatten = l
 | 0, l, hl => by simp at hl; subst hl; rfl
 | k + 1, l, hl => by
  rw [Nat.succ_mul] at hl
  simp only [Q0k, List.flatten_cons]
  rw [Q3p k _ (by rw [List.length_drop]; omega), List.take_append_drop]

def Qmk (H : List AObj) : AV → Option PV
 | .slice esz a off len => match H[a]? with
  | some (.cells cs) => match AV.toPVs ((cs.drop off).take (len * esz)) with
   | some ps => if ps.length = len * esz then some (.slice esz (Q0k esz len ps)) else none
   | none => none
  | _ => none
 | v => v.toPV
def Qj9 (H : List AObj) : List AV → Option (List PV)
 | [] => some []
 | v :: vs => match Qmk H v, Qj9 H vs with
  | some x, some xs => some (x :: xs)
  | _, _ => none
def freeze (H : List AObj) : AV → Option PV
 | .tuple vs => (Qj9 H vs).map .tuple
 | .agg vs => (Qj9 H vs).map .agg
 | v => Qmk H v
end
end Go.Av
namespace Go.Av
noncomputable section

structure Know where
 tab : Nat → Option CFunc
 known : Nat → List PV → Option PV

section
variable {P : Program} {Gl : Nat → Option (List PV)} {kn : Know}

structure KnowOk (P : Program) (Gl : Nat → Option (List PV)) (kn : Know) : Prop where
 tab : ∀ f cf, kn.tab f = some cf → Q0 P f cf = true
 known : ∀ f args r, kn.known f args = some r → Xl P Gl f args r

section
variable {β : Type} {EO : Env (Option β)} {E : Env Prop} {r : β}
theorem Q8g (h : Hom EO E r) {b : CC} {kO : CExit → List AV → List AObj → Option β} {kP : CExit → List AV → List AObj → Prop} (hk : ∀ e v H', kO e v H' = some r → kP e v H') : ∀ (n : Nat) (tm : List AV) (H : List AObj), Q9s EO b n tm H kO = some r → Q9s E b n tm H kP
 | 0, tm, H, he => by simp only [Q9s, h.fail] at he; cases he
 | n + 1, tm, H, he => by
  refine Q27 h b tm H _ _ ?_ he
  intro e v H' hv
  cases e with
  | normal => exact Q8g h hk n v H' hv
  | exit i => exact hk _ _ _ hv
  | ret => exact hk _ _ _ hv

theorem Q0d (h : Hom EO E r) {dO : Nat → List AV → List AObj → (AV → List AObj → List Nat → List Nat → Option β) → Option β} {dP : Nat → List AV → List AObj → (AV → List AObj → List Nat → List Nat → Prop) → Prop}
  (hd : ∀ f a H (kO : AV → List AObj → List Nat → List Nat → Option β) (kP : AV → List AObj → List Nat → List Nat → Prop), (∀ v H' R A, kO v H' R A = some r → kP v H' R A) → dO f a H kO = some r → dP f a H kP)
  {kO : List AV → List AObj → Option β} {kP : List AV → List AObj → Prop} (hk : ∀ v H', kO v H' = some r → kP v H') : ∀ (cs : List COper) (tm : List AV) (H : List AObj) (j : Nat) (acc : List Fp), Wq EO dO kO cs tm H j acc = some r → Wq E dP kP cs tm H j acc
 | [], tm, H, j, acc, he => by
  simp only [Q60, Yv] at he ⊢
  split at he
  ·rename_i hb; rw [if_pos hb]; exact hk _ _ he
  ·rw [h.fail] at he; cases he
 | c :: cs, tm, H, j, acc, he => by
  have run : ∀ tm, Qc3 EO dO tm H (fun v hp rd af => put tm c.dst v fun tm => Wq EO dO kO cs tm hp (j + 1) (⟨j, rd, af, c.bef⟩ :: acc)) c.op = some r →
    Qc3 E dP tm H (fun v hp rd af => put tm c.dst v fun tm => Wq E dP kP cs tm hp (j + 1) (⟨j, rd, af, c.bef⟩ :: acc)) c.op := by
   intro tm he
   have kk : ∀ v H' R A, (put tm c.dst v fun tm => Wq EO dO kO cs tm H' (j + 1) (⟨j, R, A, c.bef⟩ :: acc)) = some r → (put tm c.dst v fun tm => Wq E dP kP cs tm H' (j + 1) (⟨j, R, A, c.bef⟩ :: acc)) := fun v H' R A hv => by
    rw [Vp] at hv ⊢; exact Q0d h hd hk cs _ _ _ _ hv
   by_cases hc : c.op.isCall = false
   ·rw [Q83 _ _ _ _ _ _ hc] at he ⊢
    exact Qb5 h (fun v H' hv => kk v H' _ _ hv) he
   ·revert he hc
    generalize c.op = op
    intro he hc
    cases op <;> try (simp [COp.isCall] at hc; done)
    case call f args =>
     simp only [Qc3, Wg] at he ⊢
     exact hd _ _ _ _ _ kk he
    case callv f args =>
     simp only [Qc3, Wg, Qk, Vf, Yr] at he ⊢
     split at he
     ·exact hd _ _ _ _ _ kk he
     ·exact hd _ _ _ _ _ kk he
     ·rw [h.fail] at he; cases he
  have skip : ∀ tm, (put tm c.dst Ym fun tm => Wq EO dO kO cs tm H (j + 1) acc) = some r → (put tm c.dst Ym fun tm => Wq E dP kP cs tm H (j + 1) acc) := fun tm hv => by
   rw [Vp] at hv ⊢; exact Q0d h hd hk cs _ _ _ _ hv
  simp only [Q4n] at he ⊢
  cases hg : c.guard with
  | none => rw [hg] at he; exact run tm he
  | some tw =>
   obtain ⟨t, want⟩ := tw
   rw [hg] at he
   simp only [Uw, Q17, Vj] at he ⊢
   split at he
   ·rename_i b hv
    cases b <;> cases want <;> simp only [if_true, if_false, Bool.false_eq_true] at he ⊢ <;> first | exact run _ he | exact skip _ he
   ·exact skip _ he
   ·rw [h.fail] at he; cases he
end

end
end
end Go.Av
