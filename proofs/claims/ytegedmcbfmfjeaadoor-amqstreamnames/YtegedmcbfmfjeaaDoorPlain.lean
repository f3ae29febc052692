/- The law. Part of a proof of a given statement: for every input the law returns true and the arguments read as before; no condition beyond the given row. -/
import Derived.Test.YtegedmcbfmfjeaaDoorLiftF3
import Derived.Test.YtegedmcbfmfjeaaDoorAvLift
import Derived.Test.YtegedmcbfmfjeaaDoorOks
namespace Go.Av
noncomputable section
open Go.Proofs
@[simp] theorem Qh3 (x y : Int) : (Qc .lss x y = true) = (x < y) := by simp [Qc]
@[simp] theorem Qgx (x y : Int) : (Qc .leq x y = true) = (x ≤ y) := by simp [Qc]
@[simp] theorem Qh0 (x y : Int) : (Qc .gtr x y = true) = (x > y) := by simp [Qc]
@[simp] theorem Qgk (x y : Int) : (Qc .geq x y = true) = (x ≥ y) := by simp [Qc]
@[simp] theorem Qh1 (x y : Int) : (Qc .eql x y = true) = (x = y) := by simp [Qc]
@[simp] theorem Qhf (x y : Int) : (Qc .neq x y = true) = (x ≠ y) := by simp [Qc]
theorem Qfx (x : Int) (h : -9223372036854775808 ≤ x ∧ x ≤ 9223372036854775807) : IntKind.wrap .i64 x = x := IntWalk.i64_in x h
mutual
def Q0.sz : Q0 → Nat
 | .mk _ _ _ is => 1 + Q0.szs is
def Q0.szs : List Q0 → Nat
 | [] => 0
 | v :: l => v.sz + Q0.szs l
end
theorem Q0.sz_eq (v : Q0) : v.sz = 1 + Q0.szs v.Items := by cases v; simp [Q0.sz]
theorem Q0.szs_len : ∀ l : List Q0, l.length ≤ Q0.szs l
 | [] => by simp
 | v :: l => by
  have h1 := Q0.szs_len l
  have h2 := Q0.sz_eq v
  simp only [Q0.szs, List.length_cons]
  omega
theorem Q0.szs_mem : ∀ (l : List Q0) (v : Q0), v ∈ l → v.sz ≤ Q0.szs l
 | [], v, h => by cases h
 | u :: l, v, h => by
  simp only [Q0.szs]
  rcases List.mem_cons.1 h with rfl | h
  ·omega
  ·have := Q0.szs_mem l v h; omega
noncomputable instance : DecidableEq Q0 := fun a b => Classical.propDecidable (a = b)
end
end Go.Av
namespace Go.Av
noncomputable section
open Go.Proofs
end
end Go.Av
namespace Go.Av
noncomputable section
open Go.Proofs
def Uk (k : Int) : Int × Bool :=
 if k = 2 then (1, false) else if k = 3 then (8, false) else if k = 4 then (16, false)
 else if k = 5 ∨ k = 11 ∨ k = 13 ∨ k = 16 then (32, false) else if k = 6 ∨ k = 12 ∨ k = 14 then (64, false)
 else if k = 7 then (8, true) else if k = 8 then (16, true) else if k = 9 then (32, true) else if k = 10 ∨ k = 17 then (64, true) else (0, false)
def Q08 (k : Int) : Bool := decide (k = 15 ∨ k = 18 ∨ k = 19 ∨ k = 20 ∨ k = 21)
def Qfo (n : Int) : Bool := decide (n ≤ 1114111 ∧ ¬ (55296 ≤ n ∧ n ≤ 57343))
def s64 (n : Int) : Int := if n < 9223372036854775808 then n else n - 18446744073709551616
def Q4v (n bits : Int) (signed : Bool) : Bool := if signed then decide (-(2 ^ (bits.toNat - 1)) ≤ s64 n ∧ s64 n < 2 ^ (bits.toNat - 1)) else decide (n < 2 ^ bits.toNat)
end
end Go.Av
namespace Go.Av
noncomputable section
def Jg (s : List UInt8) : Nat := s.foldl (fun a b => a * 256 + b.toNat) 0
theorem Q1j (s : List UInt8) (b : UInt8) : Jg (s ++ [b]) = Jg s * 256 + b.toNat := by simp [Jg]
def Q39 : Nat → Nat → List UInt8
 | _, 0 => []
 | n, w + 1 => Q39 (n / 256) w ++ [UInt8.ofNat (n % 256)]
theorem J1 : ∀ (w n : Nat), (Q39 n w).length = w
 | 0, _ => rfl
 | w + 1, n => by simp [Q39, J1 w]
theorem Q0w : ∀ (w n : Nat), Jg (Q39 n w) = n % 256 ^ w
 | 0, n => by simp [Q39, Jg, Nat.mod_one]
 | w + 1, n => by
  rw [Q39, Q1j, Q0w w, Nat.pow_succ, Nat.mul_comm (256 ^ w) 256, Nat.mod_mul]
  have : (UInt8.ofNat (n % 256)).toNat = n % 256 := by simp
  rw [this]; omega
theorem Qcj {α : Type} {P : List α → Prop} (h0 : P []) (h1 : ∀ s b, P s → P (s ++ [b])) (s : List α) : P s := by
 have h : ∀ t : List α, P t.reverse := by
  intro t
  induction t with
  | nil => exact h0
  | cons b t ih => rw [List.reverse_cons]; exact h1 _ _ ih
 have := h s.reverse
 rwa [List.reverse_reverse] at this
theorem Qa4 : ∀ (s : List UInt8), Jg s < 256 ^ s.length := by
 refine Qcj (by simp [Jg]) (fun s b ih => ?_)
 ·rw [Q1j, List.length_append, List.length_singleton, Nat.pow_succ]
  have := b.toNat_lt
  simp at this
  omega
theorem Qat : ∀ (s : List UInt8), Q39 (Jg s) s.length = s := by
 refine Qcj rfl (fun s b ih => ?_)
 ·rw [Q1j, List.length_append, List.length_singleton, Q39]
  have hb := b.toNat_lt
  simp at hb
  rw [show (Jg s * 256 + b.toNat) / 256 = Jg s by omega, ih, show (Jg s * 256 + b.toNat) % 256 = b.toNat by omega]
  simp
theorem Q7q : ∀ (w n : Nat), Q39 (n % 256 ^ w) w = Q39 n w
 | 0, n => rfl
 | w + 1, n => by
  have h := Q7q w (n / 256)
  rw [Q39, Q39, Nat.pow_succ, Nat.mul_comm (256 ^ w) 256, Nat.mod_mul]
  rw [show (n % 256 + 256 * (n / 256 % 256 ^ w)) / 256 = n / 256 % 256 ^ w by omega, h, show (n % 256 + 256 * (n / 256 % 256 ^ w)) % 256 = n % 256 by omega]
end
end Go.Av
namespace Go.Av
noncomputable section
open Go.Proofs
def inB (s : List UInt8) (i lo hi : Nat) : Bool := match s[i]? with
 | some b => decide (lo ≤ b.toNat ∧ b.toNat ≤ hi)
 | none => false
def cpN (s : List UInt8) : Nat := match s with
 | [] => 0
 | c :: _ => if c.toNat < 128 then 1
  else if 194 ≤ c.toNat ∧ c.toNat ≤ 223 then (if inB s 1 128 191 then 2 else 0)
  else if c.toNat = 224 then (if inB s 1 160 191 && inB s 2 128 191 then 3 else 0)
  else if c.toNat = 237 then (if inB s 1 128 159 && inB s 2 128 191 then 3 else 0)
  else if 225 ≤ c.toNat ∧ c.toNat ≤ 239 then (if inB s 1 128 191 && inB s 2 128 191 then 3 else 0)
  else if c.toNat = 240 then (if inB s 1 144 191 && inB s 2 128 191 && inB s 3 128 191 then 4 else 0)
  else if 241 ≤ c.toNat ∧ c.toNat ≤ 243 then (if inB s 1 128 191 && inB s 2 128 191 && inB s 3 128 191 then 4 else 0)
  else if c.toNat = 244 then (if inB s 1 128 143 && inB s 2 128 191 && inB s 3 128 191 then 4 else 0)
  else 0
def Qcd : Nat → List UInt8 → Bool
 | 0, s => s.isEmpty
 | n + 1, s => if s.isEmpty then true else match cpN s with
  | 0 => false
  | k + 1 => Qcd n (s.drop (k + 1))
def Qe2 (s : List UInt8) : Bool := Qcd s.length s
def Qeh (s : List UInt8) : Bool := s.all fun b => decide (b.toNat < 128)
def Q70 (k n : Int) : Bool := Q4v n (Uk k).1 (Uk k).2 && (k != 16 || Qfo n)
def Qfi (k : Int) (t : List UInt8) : Int := if k = 20 then (if Qe2 t then 0 else 6) else if k = 21 then (if Qeh t then 0 else 6) else 0
def Ua (v : Q0) : Int :=
 if v.Kind < 1 ∨ 21 < v.Kind then 8
 else if Q70 v.Kind v.N' = false ∨ v.Items ≠ [] then 2
 else if Q08 v.Kind = false then (if v.Text ≠ [] then 2 else 0)
 else if (v.Kind = 15 ∨ v.Kind = 18) ∧ v.Text.length ≠ 16 then 2
 else if 1048576 < v.Text.length then 4 else Qfi v.Kind v.Text
def Gv (c : Y7) (v : Q0) : Bool :=
 if c.Code = 65 then decide (v.N' = 1) else if c.Sized then decide (c.Width = 4 ∨ v.Text.length ≤ 255)
 else if c.Width = 0 then decide (v.N' = 0) else if c.Width = 1 then Q4v v.N' 8 (Uk c.Kind).2 else true
def Q16 (code : Int) (v : Q0) : Bool := ofB code && decide ((ofS code).Kind = v.Kind) && decide (Ua v = 0) && Gv (ofS code) v
def Ve (c : Y7) (v : Q0) : List UInt8 :=
 if c.Sized then Q39 v.Text.length c.Width.toNat ++ v.Text else if c.Width = 16 then v.Text else Q39 v.N'.toNat c.Width.toNat
def Qgn (code : Int) (v : Q0) : List UInt8 × Int :=
 if Ua v ≠ 0 then ([], Ua v) else if Q16 code v = false then ([], 2) else (Ve (ofS code) v, 0)
def Uo (c : Y7) (n : Int) : Int := if (Uk c.Kind).2 = true ∧ 0 < c.Width ∧ 2 ^ (8 * c.Width.toNat - 1) ≤ n then n + (18446744073709551616 - 2 ^ (8 * c.Width.toNat)) else n
def Vd : Q0 := ⟨0, 0, [], []⟩
def Qb1 (v : Q0) (n : Int) : Q0 × Int × Int := if Ua v = 0 then (v, n, 0) else (Vd, 0, if Ua v = 2 then 5 else Ua v)
def Qc9 (code : Int) (s : List UInt8) : Q0 × Int × Int :=
 if ofB code = false ∨ (ofS code).Items = true then (Vd, 0, 8)
 else if (s.length : Int) < (ofS code).Width then (Vd, 0, 3)
 else if (ofS code).Sized = true then
  if s.length - (ofS code).Width.toNat < Jg (s.take (ofS code).Width.toNat) then (Vd, 0, 3)
  else Qb1 ⟨(ofS code).Kind, 0, (s.drop (ofS code).Width.toNat).take (Jg (s.take (ofS code).Width.toNat)), []⟩ ((ofS code).Width + Jg (s.take (ofS code).Width.toNat))
 else if (ofS code).Width = 16 then Qb1 ⟨(ofS code).Kind, 0, s.take 16, []⟩ 16
 else if (ofS code).Code = 65 then Qb1 ⟨(ofS code).Kind, 1, [], []⟩ 0
 else Qb1 ⟨(ofS code).Kind, Uo (ofS code) (Jg (s.take (ofS code).Width.toNat)), [], []⟩ (ofS code).Width
end
end Go.Av
namespace Go.Av
noncomputable section
open Go.Proofs
set_option maxRecDepth 100000
set_option maxRecDepth 100000 in
end
end Go.Av
namespace Go.Av
noncomputable section
open Go.Proofs
set_option maxRecDepth 100000
end
end Go.Av
namespace Go.Av
noncomputable section
open Go.Proofs
set_option maxRecDepth 100000
def okU (n : Int) : Prop := 0 ≤ n ∧ n < 18446744073709551616
end
end Go.Av
namespace Go.Av
noncomputable section
open Go.Proofs
set_option maxRecDepth 100000
abbrev Qg0 (s : List UInt8) : Prop := s.length < 4611686018427387904
end
end Go.Av
namespace Go.Av
noncomputable section
open Go.Proofs
set_option maxRecDepth 100000
def Qee (code : Int) (t : Int × Int × Int × Bool × Bool) : Bool :=
 decide (t.1 = code) && decide (1 ≤ t.2.1 ∧ t.2.1 ≤ 25) && (t.2.2.2.2 == decide (22 ≤ t.2.1)) &&
 (t.2.2.2.2 || (if t.2.2.2.1 then decide ((t.2.2.1 = 1 ∨ t.2.2.1 = 4) ∧ 19 ≤ t.2.1 ∧ t.2.1 ≤ 21 ∧ t.1 ≠ 65)
  else if t.2.2.1 = 16 then decide ((t.2.1 = 15 ∨ t.2.1 = 18) ∧ t.1 ≠ 65)
  else decide (Q08 t.2.1 = false) && decide (t.2.2.1 = 0 ∨ t.2.2.1 = 1 ∨ t.2.2.1 = 2 ∨ t.2.2.1 = 4 ∨ t.2.2.1 = 8) &&
   decide (t.1 = 65 → t.2.2.1 = 0 ∧ t.2.1 = 2) && decide (t.2.2.1 = 1 → (Uk t.2.1).1 ≤ 8 → (Uk t.2.1).2 = false ∨ (Uk t.2.1).1 = 8) && decide (2 ≤ t.2.2.1 → (Uk t.2.1).1 = 8 * t.2.2.1)))
theorem Q96 : ((List.range 40).all fun k => Qee (W7 k) (Xg k)) = true := by decide +kernel
structure Well (code : Int) (c : Y7) : Prop where
 code : c.Code = code
 kind : 1 ≤ c.Kind ∧ c.Kind ≤ 25
 items : c.Items = decide (22 ≤ c.Kind)
 sized : c.Items = false → c.Sized = true → (c.Width = 1 ∨ c.Width = 4) ∧ 19 ≤ c.Kind ∧ c.Kind ≤ 21 ∧ c.Code ≠ 65
 wide : c.Items = false → c.Sized = false → c.Width = 16 → (c.Kind = 15 ∨ c.Kind = 18) ∧ c.Code ≠ 65
 num : c.Items = false → c.Sized = false → c.Width ≠ 16 → Q08 c.Kind = false ∧ (c.Width = 0 ∨ c.Width = 1 ∨ c.Width = 2 ∨ c.Width = 4 ∨ c.Width = 8) ∧ (c.Code = 65 → c.Width = 0 ∧ c.Kind = 2) ∧ (2 ≤ c.Width → (Uk c.Kind).1 = 8 * c.Width)
theorem Qdz (code : Int) (h : ofB code = true) : Well code (ofS code) := by
 have h1 : bsI code < 40 ∧ W7 (bsI code) = code := by simpa [ofB] using h
 have hw := List.all_eq_true.1 Q96 (bsI code) (by simpa using h1.1)
 rw [h1.2] at hw
 have e : ofT code = Xg (bsI code) := by unfold ofT; rw [if_pos h]
 rw [← e] at hw
 have es : ofS code = ⟨(ofT code).1, (ofT code).2.1, (ofT code).2.2.1, (ofT code).2.2.2.1, (ofT code).2.2.2.2⟩ := rfl
 rw [es]
 generalize ofT code = t at hw
 obtain ⟨c, k, w, s, i⟩ := t
 simp only [Qee, Bool.and_eq_true, decide_eq_true_eq, beq_iff_eq] at hw
 obtain ⟨⟨⟨h1, h2⟩, h3⟩, h4⟩ := hw
 refine ⟨h1, h2, h3, ?_, ?_, ?_⟩ <;> intro hi hs <;> simp only at hi hs
 ·rw [hi, hs] at h4
  simpa using h4
 ·intro hw16
  simp only at hw16
  rw [hi, hs, if_pos hw16] at h4
  simpa using h4
 ·intro hw16
  simp only at hw16
  rw [hi, hs, if_neg hw16] at h4
  simp only [Bool.false_or, Bool.and_eq_true, decide_eq_true_eq, Bool.false_eq_true, if_false] at h4
  exact ⟨h4.1.1.1.1, h4.1.1.1.2, h4.1.1.2, h4.2⟩
theorem Q10 {v : Q0} (h : Ua v = 0) : 1 ≤ v.Kind ∧ v.Kind ≤ 21 ∧ Q70 v.Kind v.N' = true ∧ v.Items = [] ∧ (Q08 v.Kind = false → v.Text = []) ∧ (v.Kind = 15 ∨ v.Kind = 18 → v.Text.length = 16) ∧ v.Text.length ≤ 1048576 := by
 unfold Ua at h
 split at h
 ·omega
 split at h
 ·omega
 rename_i h1 h2
 have hi : v.Items = [] := by
  apply Classical.byContradiction
  intro hn; exact h2 (.inr hn)
 have ho : Q70 v.Kind v.N' = true := by
  cases ho : Q70 v.Kind v.N' with
  | true => rfl
  | false => exact absurd (.inl ho) h2
 split at h
 ·split at h
  ·omega
  ·rename_i h3 h4
   have ht : v.Text = [] := by
    apply Classical.byContradiction
    intro hn; exact h4 hn
   refine ⟨by omega, by omega, ho, hi, fun _ => ht, fun hk => ?_, by rw [ht]; simp⟩
   rcases hk with hk | hk <;> rw [hk] at h3 <;> cases h3
 ·split at h
  ·omega
  split at h
  ·omega
  rename_i h3 h4 h5
  exact ⟨by omega, by omega, ho, hi, fun ht => absurd ht h3, fun hk => by
   apply Classical.byContradiction
   intro hn; exact h4 ⟨hk, hn⟩, by omega⟩
theorem Q5b {k n : Int} (h : Q08 k = true) (hn : Q70 k n = true) (h0 : 0 ≤ n) : n = 0 := by
 unfold Q08 at h
 simp only [decide_eq_true_eq] at h
 have hb : Uk k = (0, false) := by
  rcases h with rfl | rfl | rfl | rfl | rfl <;> rfl
 simp only [Q70, Bool.and_eq_true, hb, Q4v, Bool.false_eq_true, if_false, decide_eq_true_eq] at hn
 have := hn.1
 simp at this
 omega
theorem Qal {c : Y7} {n : Int} {w : Nat} (hw : c.Width = w) (h148 : w = 1 ∨ w = 2 ∨ w = 4 ∨ w = 8) (hn : okU n) (hf : Q4v n (8 * w) (Uk c.Kind).2 = true) : Uo c ((n.toNat % 256 ^ w : Nat) : Int) = n := by
 obtain ⟨h0, h1⟩ := hn
 unfold Uo
 unfold Q4v s64 at hf
 cases hs : (Uk c.Kind).2
 ·rw [hs] at hf
  simp only [Bool.false_eq_true, if_false, decide_eq_true_eq] at hf
  simp only [Bool.false_eq_true, false_and, if_false]
  rcases h148 with rfl | rfl | rfl | rfl <;> simp at hf ⊢ <;> omega
 ·rw [hs] at hf
  simp only [if_true, decide_eq_true_eq] at hf
  simp only [true_and, hw]
  rcases h148 with rfl | rfl | rfl | rfl <;> simp at hf ⊢ <;> split at hf <;> (try split) <;> omega
theorem Q9q {c : Y7} {n w : Nat} (hw : c.Width = w) (h148 : w = 1 ∨ w = 2 ∨ w = 4 ∨ w = 8) (hn : n < 256 ^ w) : okU (Uo c n) ∧ (Uo c n).toNat % 256 ^ w = n ∧ Q4v (Uo c n) (8 * w) (Uk c.Kind).2 = true := by
 unfold Uo okU Q4v s64
 cases hs : (Uk c.Kind).2
 ·simp only [Bool.false_eq_true, false_and, if_false]
  rcases h148 with rfl | rfl | rfl | rfl <;> simp at hn ⊢ <;> omega
 ·simp only [true_and, hw, if_true]
  rcases h148 with rfl | rfl | rfl | rfl <;> simp at hn ⊢ <;> split <;> refine ⟨by omega, by omega, ?_⟩ <;> (try split) <;> omega
end
end Go.Av
namespace Go.Av
noncomputable section
open Go.Proofs
set_option maxRecDepth 100000
theorem Q3b {code : Int} {v : Q0} (h : Q16 code v = true) : ofB code = true ∧ (ofS code).Kind = v.Kind ∧ Ua v = 0 ∧ Gv (ofS code) v = true := by
 simp only [Q16, Bool.and_eq_true, decide_eq_true_eq] at h
 exact ⟨h.1.1.1, h.1.1.2, h.1.2, h.2⟩
theorem Qf9 : okU 0 := ⟨by decide, by decide⟩
theorem Qgc : okU 1 := ⟨by decide, by decide⟩
inductive Qfn (c : Y7) : Prop
 | sized (w : Nat) (hs : c.Sized = true) (hw : c.Width = w) (h : w = 1 ∨ w = 4) (hk : 19 ≤ c.Kind ∧ c.Kind ≤ 21) (hc : c.Code ≠ 65)
 | wide (hs : c.Sized = false) (hw : c.Width = 16) (hk : c.Kind = 15 ∨ c.Kind = 18) (hc : c.Code ≠ 65)
 | num (w : Nat) (hs : c.Sized = false) (hw : c.Width = w) (h : w = 0 ∨ w = 1 ∨ w = 2 ∨ w = 4 ∨ w = 8) (ht : Q08 c.Kind = false) (hc : c.Code = 65 → w = 0 ∧ c.Kind = 2) (hb : 2 ≤ w → (Uk c.Kind).1 = 8 * w)
theorem Well.shape {code : Int} {c : Y7} (h : Well code c) (hi : c.Items = false) : Qfn c := by
 cases hs : c.Sized with
 | true =>
  obtain ⟨h1, h2, h3, h4⟩ := h.sized hi hs
  rcases h1 with h1 | h1
  ·exact .sized 1 hs h1 (.inl rfl) ⟨h2, h3⟩ h4
  ·exact .sized 4 hs h1 (.inr rfl) ⟨h2, h3⟩ h4
 | false =>
  by_cases h16 : c.Width = 16
  ·obtain ⟨h1, h2⟩ := h.wide hi hs h16
   exact .wide hs h16 h1 h2
  ·obtain ⟨h1, h2, h3, h4⟩ := h.num hi hs h16
   have hw : c.Width = (c.Width.toNat : Nat) := by omega
   refine .num c.Width.toNat hs hw (by omega) h1 (fun hc => ?_) (fun hb => ?_)
   ·obtain ⟨q1, q2⟩ := h3 hc
    exact ⟨by omega, q2⟩
   ·have := h4 (by omega)
    omega
theorem Q1p {code : Int} {c : Y7} (h : Well code c) (hk : c.Kind ≤ 21) : c.Items = false := by
 rw [h.items]
 exact decide_eq_false (by omega)
end
end Go.Av
namespace Go.Av
noncomputable section
open Go.Proofs
set_option maxRecDepth 100000
theorem Q0.ext' {v w : Q0} (h1 : v.Kind = w.Kind) (h2 : v.N' = w.N') (h3 : v.Text = w.Text) (h4 : v.Items = w.Items) : v = w := by
 cases v; cases w; simp_all
theorem Q6w {k : Int} (h : 19 ≤ k ∧ k ≤ 21) : Q08 k = true := by
 unfold Q08; exact decide_eq_true (by omega)
theorem Q87 {k : Int} (h : k = 15 ∨ k = 18) : Q08 k = true := by
 unfold Q08; exact decide_eq_true (by omega)
theorem Q83 {code : Int} {v : Q0} (hf : Q16 code v = true) : (Ve (ofS code) v).length = (ofS code).Width.toNat + (if (ofS code).Sized then v.Text.length else 0) := by
 obtain ⟨f1, f2, f3, f4⟩ := Q3b hf
 obtain ⟨c1, c2, c3, c4, c5, c6, c7⟩ := Q10 f3
 have hw := Qdz code f1
 have hi := Q1p hw (by omega)
 unfold Ve
 cases hw.shape hi with
 | sized w hs hw' h12 hk hc => rw [hs]; simp [J1]
 | wide hs hw' hk hc =>
  rw [hs, hw']
  simp [c6 (by omega)]
 | num w hs hw' hh ht hc hbb =>
  rw [hs, hw']
  simp only [Bool.false_eq_true, if_false]
  rw [if_neg (by omega), J1]; rfl
theorem Qbt {code : Int} {v : Q0} {w : Nat} (_hn : okU v.N') (hf : Q16 code v = true) (hs : (ofS code).Sized = false) (hw' : (ofS code).Width = w) (hh : w = 1 ∨ w = 2 ∨ w = 4 ∨ w = 8) (h65 : (ofS code).Code ≠ 65)
  (hbb : 2 ≤ w → (Uk (ofS code).Kind).1 = 8 * w) : Q4v v.N' (8 * w) (Uk (ofS code).Kind).2 = true := by
 obtain ⟨f1, f2, f3, f4⟩ := Q3b hf
 obtain ⟨c1, c2, c3, c4, c5, c6, c7⟩ := Q10 f3
 unfold Gv at f4
 rw [if_neg h65, hs, hw'] at f4
 simp only [Bool.false_eq_true, if_false] at f4
 rw [if_neg (by omega)] at f4
 by_cases h1 : w = 1
 ·subst h1
  rw [if_pos (by decide)] at f4
  exact f4
 ·simp only [Q70, Bool.and_eq_true] at c3
  have := c3.1
  rw [← f2, hbb (by omega)] at this
  exact this
theorem Qek {code : Int} {v : Q0} (hn : okU v.N') (hf : Q16 code v = true) (s : List UInt8) : Qc9 code (Ve (ofS code) v ++ s) = (v, ((Ve (ofS code) v).length : Int), 0) := by
 have hlen := Q83 hf
 obtain ⟨f1, f2, f3, f4⟩ := Q3b hf
 obtain ⟨c1, c2, c3, c4, c5, c6, c7⟩ := Q10 f3
 have hw := Qdz code f1
 have hi := Q1p hw (by omega)
 have nf := fun w => Qbt (w := w) hn hf
 unfold Qc9
 rw [f1, hi, if_neg (by simp)]
 have hd : Ve (ofS code) v = Ve (ofS code) v := rfl
 unfold Ve at hd hlen ⊢
 cases hw.shape hi with
 | sized w hs hw' h12 hk hc =>
  simp only [hs, hw', if_true, Int.toNat_natCast, List.append_assoc]
  have hbl := J1 w v.Text.length
  have e1 : (Q39 v.Text.length w ++ (v.Text ++ s)).take w = Q39 v.Text.length w := List.take_left' hbl
  have e2 : (Q39 v.Text.length w ++ (v.Text ++ s)).drop w = v.Text ++ s := List.drop_left' hbl
  have htx : Q08 v.Kind = true := Q6w (by omega)
  have hn0 := Q5b htx c3 hn.1
  have e3 : v.Text.length % 256 ^ w = v.Text.length := by
   apply Nat.mod_eq_of_lt
   unfold Gv at f4
   rw [if_neg hc, hs, if_pos rfl, hw'] at f4
   rcases h12 with rfl | rfl
   ·simp at f4; omega
   ·omega
  rw [e1, e2, Q0w, e3, List.take_left' rfl]
  rw [if_neg (by simp [hbl]; omega), if_neg (by simp [hbl])]
  have ev : (⟨(ofS code).Kind, 0, v.Text, []⟩ : Q0) = v := Q0.ext' f2 hn0.symm rfl c4.symm
  rw [ev, Qb1, if_pos f3]
  simp [hbl]
 | wide hs hw' hk hc =>
  simp only [hs, hw', Bool.false_eq_true, if_false, if_true]
  have h16 := c6 (by omega)
  have htx : Q08 v.Kind = true := Q87 (by omega)
  have hn0 := Q5b htx c3 hn.1
  rw [if_neg (by simp [h16]; omega), List.take_left' h16]
  have ev : (⟨(ofS code).Kind, 0, v.Text, []⟩ : Q0) = v := Q0.ext' f2 hn0.symm rfl c4.symm
  rw [ev, Qb1, if_pos f3]
  simp [h16]
 | num w hs hw' hh ht hc hbb =>
  simp only [hs, hw', Bool.false_eq_true, if_false, Int.toNat_natCast]
  have h16 : ¬ ((w : Int) = 16) := by omega
  have hbl := J1 w v.N'.toNat
  have ht0 := c5 (by rw [← f2]; exact ht)
  simp only [h16, if_false]
  rw [if_neg (by simp [hbl]; omega)]
  by_cases h65 : (ofS code).Code = 65
  ·obtain ⟨rfl, hk2⟩ := hc h65
   rw [if_pos h65]
   have hn1 : v.N' = 1 := by
    unfold Gv at f4
    rw [if_pos h65] at f4
    simpa using f4
   have ev : (⟨(ofS code).Kind, 1, [], []⟩ : Q0) = v := Q0.ext' f2 hn1.symm ht0.symm c4.symm
   rw [ev, Qb1, if_pos f3]
   simp [hbl]
  ·rw [if_neg h65, List.take_left' hbl, Q0w]
   have e : Uo (ofS code) ((v.N'.toNat % 256 ^ w : Nat) : Int) = v.N' := by
    rcases hh with rfl | hh
    ·unfold Gv at f4
     rw [if_neg h65, hs, hw'] at f4
     simp at f4
     unfold Uo
     rw [if_neg (by omega), f4]; rfl
    ·exact Qal hw' hh hn (nf w hs hw' hh h65 hbb)
   rw [e]
   have ev : (⟨(ofS code).Kind, v.N', [], []⟩ : Q0) = v := Q0.ext' f2 rfl ht0.symm c4.symm
   rw [ev, Qb1, if_pos f3]
   simp [hbl]
end
end Go.Av
namespace Go.Av
noncomputable section
open Go.Proofs
set_option maxRecDepth 100000
theorem Q7d {v x : Q0} {n m : Int} (h : Qb1 v n = (x, m, 0)) : Ua v = 0 ∧ x = v ∧ m = n := by
 unfold Qb1 at h
 split at h
 ·rename_i h0
  cases h
  exact ⟨h0, rfl, rfl⟩
 ·rename_i h0
  simp only [Prod.mk.injEq] at h
  split at h <;> omega
theorem reads {code : Int} {s : List UInt8} {x : Q0} {n : Int} (hs : Qg0 s) (h : Qc9 code s = (x, n, 0)) : 0 ≤ n ∧ n ≤ s.length ∧ okU x.N' ∧ x.Text.length ≤ s.length ∧ Ua x = 0 ∧ Q16 code x = true ∧ Ve (ofS code) x = s.take n.toNat := by
 unfold Qc9 at h
 split at h
 ·cases h
 rename_i h1
 have hb : ofB code = true := by
  cases hb : ofB code with
  | true => rfl
  | false => exact absurd (.inl hb) h1
 have hi : (ofS code).Items = false := by
  cases hi : (ofS code).Items with
  | false => rfl
  | true => exact absurd (.inr hi) h1
 have hw := Qdz code hb
 split at h
 ·cases h
 rename_i h2
 have fit : ∀ v : Q0, v.Kind = (ofS code).Kind → Ua v = 0 → Gv (ofS code) v = true → Q16 code v = true := fun v q1 q2 q3 => by
  simp only [Q16, hb, q1, q2, q3, decide_true, Bool.and_self]
 have hd : ∀ v, Ve (ofS code) v = Ve (ofS code) v := fun _ => rfl
 unfold Qg0 at hs
 cases hw.shape hi with
 | sized w hsz hw' h12 hk hc =>
  simp only [hsz, hw', if_true, Int.toNat_natCast] at h
  split at h
  ·cases h
  rename_i h3
  obtain ⟨q1, rfl, rfl⟩ := Q7d h
  have hlw : w ≤ s.length := by omega
  have hmlt := Qa4 (s.take w)
  rw [List.length_take, Nat.min_eq_left hlw] at hmlt
  have hbn := Qat (s.take w)
  rw [List.length_take, Nat.min_eq_left hlw] at hbn
  generalize hm : Jg (s.take w) = m at *
  have hlen : ((s.drop w).take m).length = m := by rw [List.length_take, List.length_drop]; omega
  refine ⟨by omega, by omega, Qf9, by simp only [hlen]; omega, q1, fit _ rfl q1 ?_, ?_⟩
  ·unfold Gv
   rw [if_neg hc, hsz, if_pos rfl, hw']
   rcases h12 with rfl | rfl
   ·simp only [hlen]
    simp at hmlt
    exact decide_eq_true (.inr (by omega))
   ·exact decide_eq_true (.inl rfl)
  ·unfold Ve
   simp only [hsz, if_true, hw', Int.toNat_natCast, hlen, hbn]
   rw [show ((w : Int) + (m : Int)).toNat = w + m by omega, List.take_add]
 | wide hsz hw' hk hc =>
  simp only [hsz, hw', Bool.false_eq_true, if_false, if_true] at h
  obtain ⟨q1, rfl, rfl⟩ := Q7d h
  refine ⟨by omega, by omega, Qf9, by simp only [List.length_take]; omega, q1, fit _ rfl q1 ?_, ?_⟩
  ·unfold Gv
   rw [if_neg hc, hsz, hw']; rfl
  ·unfold Ve
   simp only [hsz, hw', Bool.false_eq_true, if_false, if_true]
   rfl
 | num w hsz hw' hh ht hc hbb =>
  simp only [hsz, hw', Bool.false_eq_true, if_false, Int.toNat_natCast] at h
  rw [if_neg (show ¬ ((w : Int) = 16) by omega)] at h
  split at h
  ·rename_i h65
   obtain ⟨rfl, hk2⟩ := hc h65
   obtain ⟨q1, rfl, rfl⟩ := Q7d h
   refine ⟨by omega, by omega, Qgc, by simp, q1, fit _ rfl q1 ?_, ?_⟩
   ·unfold Gv
    rw [if_pos h65]; rfl
   ·unfold Ve
    simp only [hsz, hw', Bool.false_eq_true, if_false]
    rfl
  ·rename_i h65
   obtain ⟨q1, rfl, rfl⟩ := Q7d h
   have hlw : w ≤ s.length := by omega
   have hlt := Qa4 (s.take w)
   have hbn := Qat (s.take w)
   rw [List.length_take, Nat.min_eq_left hlw] at hlt hbn
   rcases hh with rfl | hh
   ·have e0 : Uo (ofS code) (Jg (s.take 0) : Nat) = 0 := by
     unfold Uo
     rw [if_neg (by omega)]; rfl
    rw [e0] at q1 ⊢
    refine ⟨by omega, by omega, Qf9, by simp, q1, fit _ rfl q1 ?_, ?_⟩
    ·unfold Gv
     rw [if_neg h65, hsz, hw']; rfl
    ·unfold Ve
     simp only [hsz, hw', Bool.false_eq_true, if_false]
     rfl
   ·obtain ⟨w1, w2, w3⟩ := Q9q hw' hh hlt
    refine ⟨by omega, by omega, w1, by simp, q1, fit _ rfl q1 ?_, ?_⟩
    ·unfold Gv
     rw [if_neg h65, hsz, hw']
     simp only [Bool.false_eq_true, if_false]
     rw [if_neg (by omega)]
     split
     ·rename_i h1
      have : w = 1 := by omega
      subst this
      exact w3
     ·rfl
    ·unfold Ve
     simp only [hsz, hw', Bool.false_eq_true, if_false, Int.toNat_natCast]
     rw [if_neg (by omega), ← Q7q, w2, hbn]
end
end Go.Av
namespace Go.Av
noncomputable section
open Go.Proofs
set_option maxRecDepth 100000
end
end Go.Av
namespace Go.Av
noncomputable section
open Go.Proofs
set_option maxRecDepth 100000
theorem kinds {k : Int} (h : 1 ≤ k ∧ k ≤ 21) : k = 1 ∨ k = 2 ∨ k = 3 ∨ k = 4 ∨ k = 5 ∨ k = 6 ∨ k = 7 ∨ k = 8 ∨ k = 9 ∨ k = 10 ∨ k = 11 ∨ k = 12 ∨ k = 13 ∨ k = 14 ∨ k = 15 ∨ k = 16 ∨ k = 17 ∨ k = 18 ∨ k = 19 ∨ k = 20 ∨ k = 21 := by omega
end
end Go.Av
namespace Go.Av
noncomputable section
open Go.Proofs
set_option maxRecDepth 100000
def Q9d (k : Nat) : Bool := (Xg k).2.2.2.2 || (Xg k).2.2.2.1 || !decide ((Xg k).2.2.1 = 1) || decide (((Xg k).1 = 80 ∧ (Xg k).2.1 = 3) ∨ ((Xg k).1 = 81 ∧ (Xg k).2.1 = 7) ∨ ((Xg k).1 = 82 ∧ (Xg k).2.1 = 5) ∨ ((Xg k).1 = 83 ∧ (Xg k).2.1 = 6) ∨ ((Xg k).1 = 84 ∧ (Xg k).2.1 = 9) ∨ ((Xg k).1 = 85 ∧ (Xg k).2.1 = 10) ∨ ((Xg k).1 = 86 ∧ (Xg k).2.1 = 2))
theorem Q8l : ((List.range 40).all Q9d) = true := by decide +kernel
theorem Qe5 {P : Int × Int × Int × Bool × Bool → Prop} {B : Nat → Bool} (hB : ((List.range 40).all B) = true) (hP : ∀ k, B k = true → P (Xg k)) {code : Int} (h : ofB code = true) : P (ofT code) := by
 have h1 : bsI code < 40 ∧ W7 (bsI code) = code := by simpa [ofB] using h
 have := List.all_eq_true.1 hB (bsI code) (by simpa using h1.1)
 have e : ofT code = Xg (bsI code) := by unfold ofT; rw [if_pos h]
 rw [e]; exact hP _ this
theorem Qg3 {code : Int} (h : ofB code = true) (hi : (ofS code).Items = false) (hs : (ofS code).Sized = false) (hw : (ofS code).Width = 1) :
  (code = 80 ∧ (ofS code).Kind = 3) ∨ (code = 81 ∧ (ofS code).Kind = 7) ∨ (code = 82 ∧ (ofS code).Kind = 5) ∨ (code = 83 ∧ (ofS code).Kind = 6) ∨ (code = 84 ∧ (ofS code).Kind = 9) ∨ (code = 85 ∧ (ofS code).Kind = 10) ∨ (code = 86 ∧ (ofS code).Kind = 2) := by
 have hc := (Qdz code h).code
 have := Qe5 (P := fun t => t.2.2.2.2 = false → t.2.2.2.1 = false → t.2.2.1 = 1 → (t.1 = 80 ∧ t.2.1 = 3) ∨ (t.1 = 81 ∧ t.2.1 = 7) ∨ (t.1 = 82 ∧ t.2.1 = 5) ∨ (t.1 = 83 ∧ t.2.1 = 6) ∨ (t.1 = 84 ∧ t.2.1 = 9) ∨ (t.1 = 85 ∧ t.2.1 = 10) ∨ (t.1 = 86 ∧ t.2.1 = 2)) Q8l (fun k hk h1 h2 h3 => by
  simp only [Q9d, h1, h2, h3, Bool.false_or, decide_true, Bool.not_true, decide_eq_true_eq] at hk
  exact hk) h
 have h2 := this hi hs hw
 have hc' : (ofT code).1 = code := hc
 rw [hc'] at h2
 exact h2
end
end Go.Av
namespace Go.Av
noncomputable section
open Go.Proofs
set_option maxRecDepth 100000
end
end Go.Av
namespace Go.Av
noncomputable section
open Go.Proofs
set_option maxRecDepth 100000
end
end Go.Av
namespace Go.Av
noncomputable section
open Go.Proofs
set_option maxRecDepth 100000
def nnS (v : Q0) : Bool := (Y0 0 v).getD false
mutual
def Qc2 : Q0 → Q0 → Bool
 | .mk k n t is, b => decide (k = b.Kind) && (decide (t = b.Text) && (decide (is.length = b.Items.length) && ((decide (n = b.N') || (nnS ⟨k, n, t, is⟩ && nnS b)) && Qcg is b.Items)))
def Qcg : List Q0 → List Q0 → Bool
 | [], _ => true
 | x :: l, y :: m => Qc2 x y && Qcg l m
 | _ :: _, [] => false
end
def AL (v : Q0) (i j : Nat) : Prop := ∃ x y, v.Items[i]? = some x ∧ v.Items[j]? = some y ∧ Qc2 x y = true
open Classical in
noncomputable def Qes (v : Q0) : Int := if v.Kind ≠ 23 then 0 else if ∃ i j, 2 ≤ i ∧ i % 2 = 0 ∧ i < v.Items.length ∧ j < i ∧ j % 2 = 0 ∧ AL v i j then 16 else 0
open Classical in
open Classical in
inductive Fine : Q0 → Prop
 | mk (v : Q0) (hn : okU v.N') (ht : v.Text.length ≤ 300000) (hi : ∀ x ∈ v.Items, Fine x) : Fine v
theorem Fine.num {v : Q0} (h : Fine v) : okU v.N' := by cases h; assumption
theorem Fine.text {v : Q0} (h : Fine v) : v.Text.length ≤ 300000 := by cases h; assumption
theorem Fine.items {v : Q0} (h : Fine v) : ∀ x ∈ v.Items, Fine x := by cases h; assumption
end
end Go.Av
namespace Go.Av
noncomputable section
open Go.Proofs
set_option maxRecDepth 100000
end
end Go.Av
namespace Go.Av
noncomputable section
open Go.Proofs
set_option maxRecDepth 100000
abbrev Rd := Q0 × Int × Int
def Q6x (rd : List UInt8 → Rd) : Nat → List UInt8 → List Q0 → (List Q0 × List UInt8) × Int
 | 0, s, acc => ((acc, s), 0)
 | c + 1, s, acc => if (rd s).2.2 ≠ 0 then (([], []), (rd s).2.2) else Q6x rd c (s.drop (rd s).2.1.toNat) (acc ++ [(rd s).1])
def Q9w (data : Int → List UInt8 → Rd) : List UInt8 → Rd
 | [] => (Vd, 0, 3)
 | b :: t => if (data (b.toNat : Int) t).2.2 ≠ 0 then (Vd, 0, (data (b.toNat : Int) t).2.2) else ((data (b.toNat : Int) t).1, (data (b.toNat : Int) t).2.1 + 1, 0)
def Qfl (rd : List UInt8 → Rd) (s : List UInt8) : Rd := if (Q6x rd 2 s []).2 ≠ 0 then (Vd, 0, (Q6x rd 2 s []).2) else (⟨25, 0, [], (Q6x rd 2 s []).1.1⟩, ((s.length - (Q6x rd 2 s []).1.2.length : Nat) : Int), 0)
noncomputable def Qg1 (k num : Int) (q : (List Q0 × List UInt8) × Int) (tot : Nat) : Rd := if q.2 ≠ 0 then (Vd, 0, if q.2 = 3 then 5 else q.2) else if q.1.2 ≠ [] then (Vd, 0, 5)
 else if Qes ⟨k, num, [], q.1.1⟩ ≠ 0 then (Vd, 0, Qes ⟨k, num, [], q.1.1⟩) else (⟨k, num, [], q.1.1⟩, (tot : Int), 0)
noncomputable def Qh8 (data : Int → List UInt8 → Rd) (cnt tot : Nat) (k : Int) : List UInt8 → Rd
 | [] => (Vd, 0, 5)
 | b :: t => if ofB (b.toNat : Int) = false ∨ b.toNat = 0 then (Vd, 0, 8) else Qg1 k (ofS (b.toNat : Int)).Kind (Q6x (data (b.toNat : Int)) cnt t []) tot
noncomputable def Qfc (data : Int → List UInt8 → Rd) (c : Y7) (w : Nat) (body : List UInt8) (tot : Nat) : Rd :=
 if body.length < w then (Vd, 0, 5)
 else if 1000 < Jg (body.take w) then (Vd, 0, 4)
 else if c.Kind = 23 ∧ Jg (body.take w) % 2 ≠ 0 then (Vd, 0, 5)
 else if c.Kind = 24 then Qh8 data (Jg (body.take w)) tot c.Kind (body.drop w)
 else Qg1 c.Kind 0 (Q6x (Q9w data) (Jg (body.take w)) (body.drop w) []) tot
noncomputable def Qej (data : Int → List UInt8 → Rd) (c : Y7) (s : List UInt8) : Rd :=
 if s.length < c.Width.toNat then (Vd, 0, 3)
 else if s.length - c.Width.toNat < Jg (s.take c.Width.toNat) then (Vd, 0, 3)
 else Qfc data c c.Width.toNat ((s.drop c.Width.toNat).take (Jg (s.take c.Width.toNat))) (c.Width.toNat + Jg (s.take c.Width.toNat))
noncomputable def Qcy : Nat → Int → List UInt8 → Rd
 | 0, code, s => if ofB code = false then (Vd, 0, 8) else if (ofS code).Items = false then Qc9 code s else (Vd, 0, 14)
 | m + 1, code, s => if ofB code = false then (Vd, 0, 8) else if (ofS code).Items = false then Qc9 code s
  else if (ofS code).Kind = 25 then Qfl (Q9w (Qcy m)) s else if (ofS code).Sized = false then (⟨(ofS code).Kind, 0, [], []⟩, 0, 0) else Qej (Qcy m) (ofS code) s
end
end Go.Av
namespace Go.Av
noncomputable section
open Go.Proofs
set_option maxRecDepth 100000
end
end Go.Av
namespace Go.Av
noncomputable section
open Go.Proofs
set_option maxRecDepth 100000
end
end Go.Av
namespace Go.Av
noncomputable section
open Go.Proofs
set_option maxRecDepth 100000
theorem Qfp {code : Int} {v : Q0} {k : Nat} (hf : Q16 code v = true) (hk : k < (Ve (ofS code) v).length) : Qc9 code ((Ve (ofS code) v).take k) = (Vd, 0, 3) := by
 have hlen := Q83 hf
 obtain ⟨f1, f2, f3, f4⟩ := Q3b hf
 obtain ⟨c1, c2, c3, c4, c5, c6, c7⟩ := Q10 f3
 have hw := Qdz code f1
 have hi := Q1p hw (by omega)
 have hw0 : ((Ve (ofS code) v).take k).length = k := by rw [List.length_take]; omega
 unfold Qc9
 rw [f1, hi, if_neg (by simp), hw0]
 split
 ·rfl
 rename_i hkw
 cases hw.shape hi with
 | sized w hs hw' h12 hk2 hc =>
  simp only [hs, hw', if_true, Int.toNat_natCast] at hlen hkw ⊢
  have hkw : w ≤ k := by omega
  have e1 : ((Ve (ofS code) v).take k).take w = Q39 v.Text.length w := by
   rw [List.take_take, Nat.min_eq_left hkw]
   unfold Ve
   rw [hs, if_pos rfl, hw', Int.toNat_natCast, List.take_left' (J1 _ _)]
  have e3 : v.Text.length % 256 ^ w = v.Text.length := by
   apply Nat.mod_eq_of_lt
   unfold Gv at f4
   rw [if_neg hc, hs, if_pos rfl, hw'] at f4
   rcases h12 with rfl | rfl
   ·simp at f4; omega
   ·omega
  rw [e1, Q0w, e3, if_pos (by omega)]
 | wide hs hw' hk2 hc =>
  simp only [hs, hw', Bool.false_eq_true, if_false] at hlen hkw
  have : (16 : Int).toNat = 16 := rfl
  omega
 | num w hs hw' hh ht hc hbb =>
  simp only [hs, hw', Bool.false_eq_true, if_false] at hlen hkw
  omega
end
end Go.Av
namespace Go.Av
noncomputable section
open Go.Proofs
set_option maxRecDepth 100000
end
end Go.Av
