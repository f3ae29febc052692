/- Part of the proof of CrossNames: for every input the law returns true; no condition. -/
import Derived.Test.YtnbfaogioomghaaGreatDoorClosed6
namespace Go.Av
noncomputable section
mutual
def Q3h : PV → PV → Bool
 | .slice e r, b => match b with
  | .nilSlice => r.isEmpty
  | .slice e' r' => Nat.beq e e' && Q4g r r'
  | _ => false
 | .agg a, b => match b with
  | .agg b => Q3n a b
  | _ => false
 | .bool a, b => Q1g (.bool a) b
 | .int k n, b => Q1g (.int k n) b
 | .str s, b => Q1g (.str s) b
 | .nilPtr, b => Q1g .nilPtr b
 | .nilSlice, b => Q1g .nilSlice b
 | _, _ => false
def Q3n : List PV → List PV → Bool
 | [], [] => true
 | a :: r, b :: s => Q3h a b && Q3n r s
 | _, _ => false
def Q4g : List (List PV) → List (List PV) → Bool
 | [], [] => true
 | a :: r, b :: s => Q3n a b && Q4g r s
 | _, _ => false
end
section
variable {S : Nat → Prop} {w : World}
mutual
theorem Qee : ∀ (a x : PV), Q3h a x = true → ∀ v, RelP S w x v → RelP S w a v
 | .bool a, x, h, v, hv => by rw [Q3h] at h; rw [J3 _ _ h]; exact hv
 | .int k n, x, h, v, hv => by rw [Q3h] at h; rw [J3 _ _ h]; exact hv
 | .str s, x, h, v, hv => by rw [Q3h] at h; rw [J3 _ _ h]; exact hv
 | .nilPtr, x, h, v, hv => by rw [Q3h] at h; rw [J3 _ _ h]; exact hv
 | .nilSlice, x, h, v, hv => by rw [Q3h] at h; rw [J3 _ _ h]; exact hv
 | .agg a, .agg b, h, v, hv => by
  simp only [Q3h] at h;obtain ⟨l, q⟩ := Q02 a b h
  cases hv with
  | agg _ C hn h1 hc =>
   refine .agg a C (hn.trans l.symm) h1 fun i x hx => ?_
   have hi : i < b.length := by have := (La.1 hx).1; omega
   exact q i x b[i] hx (Ld hi) _ (hc i b[i] (Ld hi))
 | .slice e r, .nilSlice, h, v, hv => by
  have : r = [] := List.isEmpty_iff.1 (by simpa only [Q3h] using h);subst this; cases hv; exact .sliceE e none 0 fun _ => rfl
 | .slice e r, .slice e' r', h, v, hv => by
  simp only [Q3h, Lb] at h;obtain ⟨he, h⟩ := h;have he := Mz he;subst he;obtain ⟨l, q⟩ := Q43 r r' h
  cases hv with
  | sliceE _ a cap hn =>
   have : r = [] := List.length_eq_zero_iff.1 l;subst this; exact .sliceE e a cap hn
  | slice _ _ blk off cap val he hr hcap hS hc h1 hv =>
   rw [← l];refine .slice e r blk off cap val he (fun x hx => ?_) (by omega) hS (fun i x hx j y hy => ?_) h1 (fun i x hx j y hy => ?_)
   ·obtain ⟨i, hi, rfl⟩ := List.mem_iff_getElem.1 hx
    have hi' : i < r'.length := by omega
    rw [(q i _ r'[i] (Ld hi) (Ld hi')).1];exact hr _ (Be hi')
   ·have hi : i < r'.length := by have := (La.1 hx).1; omega
    obtain ⟨ll, _⟩ := q i x r'[i] hx (Ld hi)
    have hj : j < r'[i].length := by have := (La.1 hy).1; omega
    exact hc i r'[i] (Ld hi) j r'[i][j] (Ld hj)
   have hi : i < r'.length := by have := (La.1 hx).1; omega
   obtain ⟨ll, qq⟩ := q i x r'[i] hx (Ld hi)
   have hj : j < r'[i].length := by have := (La.1 hy).1; omega
   exact qq j y r'[i][j] hy (Ld hj) _ (hv i r'[i] (Ld hi) j r'[i][j] (Ld hj))
 | .slice0, _, h, _, _ => by simp [Q3h] at h
 | .sliceS, _, h, _, _ => by simp [Q3h] at h
 | .nilMap, _, h, _, _ => by simp [Q3h] at h
 | .pmap _, _, h, _, _ => by simp [Q3h] at h
 | .func _ _ _, _, h, _, _ => by simp [Q3h] at h
 | .nilFunc, _, h, _, _ => by simp [Q3h] at h
 | .iface _ _, _, h, _, _ => by simp [Q3h] at h
 | .nilIface, _, h, _, _ => by simp [Q3h] at h
 | .tuple _, _, h, _, _ => by simp [Q3h] at h
 | .agg _, .bool _, h, _, _ | .agg _, .int _ _, h, _, _ | .agg _, .str _, h, _, _ | .agg _, .nilPtr, h, _, _ | .agg _, .nilSlice, h, _, _ | .agg _, .slice0, h, _, _ | .agg _, .sliceS, h, _, _ | .agg _, .slice _ _, h, _, _ | .agg _, .nilMap, h, _, _ | .agg _, .pmap _, h, _, _ | .agg _, .func _ _ _, h, _, _ | .agg _, .nilFunc, h, _, _ | .agg _, .iface _ _, h, _, _ | .agg _, .nilIface, h, _, _ | .agg _, .tuple _, h, _, _ => by simp [Q3h] at h
 | .slice _ _, .bool _, h, _, _ | .slice _ _, .int _ _, h, _, _ | .slice _ _, .str _, h, _, _ | .slice _ _, .nilPtr, h, _, _ | .slice _ _, .slice0, h, _, _ | .slice _ _, .sliceS, h, _, _ | .slice _ _, .agg _, h, _, _ | .slice _ _, .nilMap, h, _, _ | .slice _ _, .pmap _, h, _, _ | .slice _ _, .func _ _ _, h, _, _ | .slice _ _, .nilFunc, h, _, _ | .slice _ _, .iface _ _, h, _, _ | .slice _ _, .nilIface, h, _, _ | .slice _ _, .tuple _, h, _, _ => by simp [Q3h] at h
theorem Q02 : ∀ (a b : List PV), Q3n a b = true → a.length = b.length ∧ ∀ (i : Nat) x y, a[i]? = some x → b[i]? = some y → ∀ v, RelP S w y v → RelP S w x v
 | [], [], _ => ⟨rfl, fun i x y h => by simp at h⟩
 | [], _ :: _, h => by simp [Q3n] at h
 | _ :: _, [], h => by simp [Q3n] at h
 | a :: r, b :: s, h => by
  rw [Q3n, Lb] at h;obtain ⟨l, q⟩ := Q02 r s h.2;refine ⟨by simp [l], fun i x y hx hy v hv => ?_⟩
  cases i with
  | zero => simp at hx hy; subst hx; subst hy; exact Qee a b h.1 v hv
  | succ i => exact q i x y (by simpa using hx) (by simpa using hy) v hv
theorem Q43 : ∀ (a b : List (List PV)), Q4g a b = true → a.length = b.length ∧ ∀ (i : Nat) x y, a[i]? = some x → b[i]? = some y → x.length = y.length ∧ ∀ (j : Nat) p q, x[j]? = some p → y[j]? = some q → ∀ v, RelP S w q v → RelP S w p v
 | [], [], _ => ⟨rfl, fun i x y h => by simp at h⟩
 | [], _ :: _, h => by simp [Q4g] at h
 | _ :: _, [], h => by simp [Q4g] at h
 | a :: r, b :: s, h => by
  rw [Q4g, Lb] at h;obtain ⟨l, q⟩ := Q43 r s h.2;refine ⟨by simp [l], fun i x y hx hy => ?_⟩
  cases i with
  | zero => simp at hx hy; subst hx; subst hy; exact Q02 a b h.1
  | succ i => exact q i x y (by simpa using hx) (by simpa using hy)
end
end
variable {P : Program} {Gl : Nat → Option (List PV)}
theorem Pure.nl {f : Nat} {a x : List PV} {r : PV} (h : Pure P Gl f a r) (hx : Q3n a x = true) : Pure P Gl f x r :=
 ⟨h.1, fun bad w cargs hb hs hr hg => by
  have q := Q02 (S := fun c => ¬ bad c) (w := w) a x hx;refine h.2 bad w cargs hb (hs.trans q.1.symm) (fun i y hy => ?_) hg
  have hi : i < x.length := by have := (La.1 hy).1; omega
  exact q.2 i y x[i] hy (Ld hi) _ (hr i x[i] (Ld hi))⟩
def Q9w : List (Nat × List PV × PV) → Nat → List PV → Option PV
 | [], _, _ => none
 | (g, a, r) :: t, f, args => match Nat.beq g f with
  | true => match Q3n a args with
   | true => some r
   | false => Q9w t f args
  | false => Q9w t f args
theorem Q4q : ∀ (t : List (Nat × List PV × PV)), (∀ x ∈ t, Pure P Gl x.1 x.2.1 x.2.2) → ∀ f args r, Q9w t f args = some r → Pure P Gl f args r
 | [], _, f, args, r, h => by cases h
 | (g, a, y) :: t, ht, f, args, r, h => by
  have rc := Q4q t (fun x hx => ht x (List.mem_cons_of_mem _ hx)) f args r;rw [Q9w] at h
  cases hg : Nat.beq g f with
  | false => rw [hg] at h; exact rc h
  | true =>
   rw [hg] at h
   cases hn : Q3n a args with
   | false => rw [hn] at h; exact rc h
   | true =>
    rw [hn] at h;cases h;have := Mz hg;subst this;exact (ht _ (List.mem_cons_self ..)).nl hn
end
end Go.Av
