/- The law. Part of a proof of a given statement: for every input the law returns true and the arguments read as before; no condition beyond the given row. -/
import Derived.Test.YtegedmcbfmfjeaaDoorPlainb
import Derived.Test.YtegedmcbfmfjeaaDoorOks
import Derived.Test.YtegedmcbfmfjeaaDoorLiftF3
namespace Go.Av
noncomputable section
open Go.Proofs
set_option maxRecDepth 100000
end
end Go.Av
namespace Go.Av
noncomputable section
open Go.Proofs
set_option maxRecDepth 100000
def Q0a (s : List UInt8) : List Int := s.map fun b => (b.toNat : Int)
theorem Qfm (s t : List UInt8) : Q0a (s ++ t) = Q0a s ++ Q0a t := by simp [Q0a]
theorem U5 (s : List UInt8) : (Q0a s).length = s.length := by simp [Q0a]
end
end Go.Av
namespace Go.Av
noncomputable section
open Go.Proofs
set_option maxRecDepth 100000
theorem Qd7 (s : List UInt8) : (Q0a s).map (fun n => UInt8.ofNat n.toNat) = s := by
 unfold Q0a
 rw [List.map_map]
 conv => rhs; rw [← List.map_id s]
 apply List.map_congr_left
 intro b _
 simp
end
end Go.Av
namespace Go.Av
noncomputable section
open Go.Proofs
set_option maxRecDepth 100000
end
end Go.Av
namespace Go.Av
noncomputable section
open Go.Proofs
set_option maxRecDepth 100000
end
end Go.Av
namespace Go.Av
noncomputable section
open Go.Proofs
set_option maxRecDepth 100000
end
end Go.Av
namespace Go.Av
noncomputable section
open Go.Proofs
set_option maxRecDepth 100000
def X8 (l : Qc) : Bool := decide (16 ≤ l.MaxPacket ∧ l.MaxPacket ≤ 1048576 ∧ 0 ≤ l.MaxDepth ∧ l.MaxDepth ≤ 32)
structure FB (f : Q6) : Prop where
 fine : ∀ x ∈ f.Values, Fine x
 sz : Q0.szs f.Values < 160000000
 wgt : Q0.wgts f.Values < 4000000000
theorem FB.one {f : Q6} (h : FB f) : ∀ x ∈ f.Values, Fine x ∧ x.sz < 160000000 ∧ x.wgt < 4000000000 := fun x hx => by
 have h1 := Q0.szs_mem _ x hx
 have h2 := Qaf _ x hx
 have h3 := h.sz
 have h4 := h.wgt
 exact ⟨h.fine x hx, by omega, by omega⟩
theorem FB.len {f : Q6} (h : FB f) : f.Values.length < 160000000 := by
 have h1 := Q0.szs_len f.Values
 have h2 := h.sz
 omega
theorem Qc2 (N : Nat) (l : Qc) : Xe N l = some (X8 l) := by
 unfold Xe X8
 simp only [Qw, Qd1, Qcr]
 repeat' split
 all_goals (congr 1; symm)
 ·rw [Bool.eq_iff_iff]; simp only [decide_eq_true_eq, Qcr]; omega
 all_goals (rw [decide_eq_false_iff_not]; omega)
theorem Qgi (N : Nat) (n : Int) : Xg N n = some (decide (n = 0 ∨ n = 1)) := by
 unfold Xg
 simp only [Qw, Vw]
 split
 ·rename_i h; simp [h]
 ·rename_i h
  congr 1
  rw [Bool.eq_iff_iff, Vw]; simp [h]
theorem Qjt (s : List UInt8) : (s.map fun b => (b.toNat : Int)) = Q0a s := rfl
end
end Go.Av
namespace Go.Av
noncomputable section
open Go.Proofs
set_option maxRecDepth 100000
theorem Q6.ext' {a b : Q6} (h1 : a.Type' = b.Type') (h2 : a.Channel = b.Channel) (h3 : a.Ext = b.Ext) (h4 : a.Values = b.Values) : a = b := by cases a; cases b; simp_all
noncomputable instance : DecidableEq Q6 := fun a b => decidable_of_iff (a.Type' = b.Type' ∧ a.Channel = b.Channel ∧ a.Ext = b.Ext ∧ a.Values = b.Values) ⟨fun h => Q6.ext' h.1 h.2.1 h.2.2.1 h.2.2.2, fun h => by rw [h]; exact ⟨rfl, rfl, rfl, rfl⟩⟩
end
end Go.Av
namespace Go.Av
noncomputable section
open Go.Proofs
set_option maxRecDepth 100000
def Q97 : Q6 := ⟨0, 0, [], []⟩
def Y2 (s : List UInt8) (l : Qc) : Int × Int :=
 if X8 l = false then (0, 2) else if s.length < 8 then (0, 3) else if l.MaxPacket < (Xp (s.take 4) : Int) then (0, 4)
 else if Xp (s.take 4) < 8 ∨ (s.getD 4 0).toNat < 2 ∨ Xp (s.take 4) < 4 * (s.getD 4 0).toNat then (0, 5)
 else if 1 < (s.getD 5 0).toNat then (0, 8) else ((Xp (s.take 4) : Int), 0)
def Gk (rd : List UInt8 → Rd) : Nat → List UInt8 → List Q0 → List Q0 × Int
 | 0, _, _ => ([], 0)
 | k + 1, s, acc => if s = [] then (acc, 0) else if acc.length = 1000 then ([], 4) else if (rd s).2.2 = 3 then ([], 5) else if (rd s).2.2 ≠ 0 then ([], (rd s).2.2) else Gk rd k (s.drop (rd s).2.1.toNat) (acc ++ [(rd s).1])
def Qj1 (q : List Q0 × Int) (r : List Q0 → Q6 × Int × Int) : Q6 × Int × Int := if q.2 ≠ 0 then (Q97, 0, q.2) else r q.1
theorem Qhl (l : List Q0) (r : List Q0 → Q6 × Int × Int) : Qj1 (l, 0) r = r l := if_neg (fun h => h rfl)
theorem Q65 (l : List Q0) {e : Int} (h : e ≠ 0) (r : List Q0 → Q6 × Int × Int) : Qj1 (l, e) r = (Q97, 0, e) := if_pos h
def Q8t (s : List UInt8) (n : Nat) : List UInt8 := (s.take n).drop (4 * (s.getD 4 0).toNat)
noncomputable def Q3o (s : List UInt8) (n : Nat) (m : Nat) : Q6 × Int × Int :=
 Qj1 (Gk (Yj (Vl m)) ((Q8t s n).length + 1) (Q8t s n) []) fun vs => (⟨((s.getD 5 0).toNat : Int), (Xp ((s.take 8).drop 6) : Int), (s.take (4 * (s.getD 4 0).toNat)).drop 8, vs⟩, (n : Int), 0)
noncomputable def Z6 (s : List UInt8) (l : Qc) : Q6 × Int × Int :=
 if (Y2 s l).2 ≠ 0 then (Q97, 0, (Y2 s l).2) else if s.length < Xp (s.take 4) then (Q97, 0, 3) else Q3o s (Xp (s.take 4)) l.MaxDepth.toNat
theorem Qgd {s : List UInt8} (h : 8 ≤ s.length) : ∃ a0 a1 a2 a3 a4 a5 a6 a7 t, s = a0 :: a1 :: a2 :: a3 :: a4 :: a5 :: a6 :: a7 :: t := by
 match s, h with
 | a0 :: a1 :: a2 :: a3 :: a4 :: a5 :: a6 :: a7 :: t, _ => exact ⟨a0, a1, a2, a3, a4, a5, a6, a7, t, rfl⟩
theorem Qfi (b : UInt8) : UInt8.ofNat ((b.toNat : Int)).toNat = b := by simp
theorem Qco (b : UInt8) : IntKind.i64.wrap (b.toNat : Int) = ((b.toNat : Nat) : Int) := by
 have := b.toNat_lt
 rw [Ya _ (by omega)]
theorem Qkx (b : UInt8) : IntKind.u64.wrap (b.toNat : Int) = ((b.toNat : Nat) : Int) := by
 have := b.toNat_lt
 exact V3 _ (by omega)
theorem Q6d {l : Qc} (h : X8 l = true) : 16 ≤ l.MaxPacket ∧ l.MaxPacket ≤ 1048576 ∧ 0 ≤ l.MaxDepth ∧ l.MaxDepth ≤ 32 := by simpa [X8] using h
theorem Qmo (a b c d : UInt8) : Xp [a, b, c, d] < 4294967296 := by
 have := J0 [a, b, c, d]
 simpa using this
theorem Qmf (a b : UInt8) : Xp [a, b] < 65536 := by
 have := J0 [a, b]
 simpa using this
theorem J5 {s : List UInt8} {l : Qc} (h : (Y2 s l).2 = 0) : X8 l = true ∧ 8 ≤ s.length ∧ (Xp (s.take 4) : Int) ≤ l.MaxPacket ∧ 8 ≤ Xp (s.take 4) ∧ 2 ≤ (s.getD 4 0).toNat ∧ 4 * (s.getD 4 0).toNat ≤ Xp (s.take 4) ∧ (s.getD 5 0).toNat ≤ 1 ∧ Y2 s l = ((Xp (s.take 4) : Int), 0) := by
 unfold Y2 at h ⊢
 split at h
 ·cases h
 rename_i h1; rw [if_neg h1]
 split at h
 ·cases h
 rename_i h2; rw [if_neg h2]
 split at h
 ·cases h
 rename_i h3; rw [if_neg h3]
 split at h
 ·cases h
 rename_i h4; rw [if_neg h4]
 split at h
 ·cases h
 rename_i h5; rw [if_neg h5]
 exact ⟨by simpa using h1, by omega, by omega, by omega, by omega, by omega, by omega, rfl⟩
theorem Q9w {N : Nat} (hN : N = 800000000) (s : List UInt8) (l : Qc) : Y0 N s l = some (Y2 s l) := by
 simp only [Y0, Qc2, Option.bind_some, Qw, J4, Q1m, Y2]
 cases hr : X8 l with
 | false => rfl
 | true =>
  obtain ⟨r1, r2, r3, r4⟩ := Q6d hr
  simp only [Bool.not_true, Bool.false_eq_true, if_false, Bool.true_eq_false]
  by_cases h8 : s.length < 8
  ·rw [if_pos (by omega), if_pos h8]
  rw [if_neg (by omega), if_neg h8]
  obtain ⟨a0, a1, a2, a3, a4, a5, a6, a7, t, rfl⟩ := Qgd (s := s) (by omega)
  have i0 : idx (a0 :: a1 :: a2 :: a3 :: a4 :: a5 :: a6 :: a7 :: t) 0 = some a0 := rfl
  have i1 : idx (a0 :: a1 :: a2 :: a3 :: a4 :: a5 :: a6 :: a7 :: t) 1 = some a1 := rfl
  have i2 : idx (a0 :: a1 :: a2 :: a3 :: a4 :: a5 :: a6 :: a7 :: t) 2 = some a2 := rfl
  have i3 : idx (a0 :: a1 :: a2 :: a3 :: a4 :: a5 :: a6 :: a7 :: t) 3 = some a3 := rfl
  have i4 : idx (a0 :: a1 :: a2 :: a3 :: a4 :: a5 :: a6 :: a7 :: t) 4 = some a4 := rfl
  have i5 : idx (a0 :: a1 :: a2 :: a3 :: a4 :: a5 :: a6 :: a7 :: t) 5 = some a5 := rfl
  have i6 : idx (a0 :: a1 :: a2 :: a3 :: a4 :: a5 :: a6 :: a7 :: t) 6 = some a6 := rfl
  have i7 : idx (a0 :: a1 :: a2 :: a3 :: a4 :: a5 :: a6 :: a7 :: t) 7 = some a7 := rfl
  have e0 : (a0 :: a1 :: a2 :: a3 :: a4 :: a5 :: a6 :: a7 :: t).take 4 = [a0, a1, a2, a3] := rfl
  have e4 : (a0 :: a1 :: a2 :: a3 :: a4 :: a5 :: a6 :: a7 :: t).getD 4 0 = a4 := rfl
  have e5 : (a0 :: a1 :: a2 :: a3 :: a4 :: a5 :: a6 :: a7 :: t).getD 5 0 = a5 := rfl
  have b4 := a4.toNat_lt
  have b5 := a5.toNat_lt
  have bn := Qmo a0 a1 a2 a3
  rw [i0, i1, i2, i3, i4, i5, i6, i7, e0, e4, e5]
  simp only [Option.bind_some, Qfi, Qco, Qkx]
  rw [Q3s N [a0, a1, a2, a3] (by simp) (by omega)]
  have ew : IntKind.u64.wrap l.MaxPacket = l.MaxPacket := by
   have h : ((l.MaxPacket.toNat : Nat) : Int) = l.MaxPacket := by omega
   have h2 := V3 l.MaxPacket.toNat (by omega)
   rw [h] at h2; exact h2
  have e4w : IntKind.u64.wrap ((a4.toNat : Int) * 4) = ((4 * a4.toNat : Nat) : Int) := by
   rw [show ((a4.toNat : Int) * 4) = ((4 * a4.toNat : Nat) : Int) by omega, V3 _ (by omega)]
  simp only [Option.bind_some, ew, e4w, Qgi]
  generalize Xp [a0, a1, a2, a3] = n at bn ⊢
  by_cases c1 : l.MaxPacket < (n : Int)
  ·rw [if_pos (by omega), if_pos c1]
  rw [if_neg (by omega), if_neg c1]
  by_cases c2 : n < 8 ∨ a4.toNat < 2 ∨ n < 4 * a4.toNat
  ·rw [if_pos c2]
   repeat' split
   all_goals first | rfl | omega
  rw [if_neg c2, if_neg (by omega), if_neg (by omega), if_neg (by omega)]
  by_cases c3 : 1 < a5.toNat
  ·rw [if_pos c3, decide_eq_false (by omega)]; rfl
  ·rw [if_neg c3, decide_eq_true (by omega)]
   simp only [Bool.not_true, Bool.false_eq_true, if_false]
   rw [Ya _ (by omega)]
theorem Q3j {rd : List UInt8 → Rd} (hg : ∀ s, s.length ≤ 600000 → (rd s).2.2 = 0 → 1 ≤ (rd s).2.1) : ∀ (k k' : Nat) (s : List UInt8) (acc : List Q0), s.length ≤ 600000 → s.length < k → s.length < k' → Gk rd k s acc = Gk rd k' s acc
 | 0, _, s, acc, _, h, _ => by omega
 | k + 1, 0, s, acc, _, _, h => by omega
 | k + 1, k' + 1, s, acc, hs, h1, h2 => by
  simp only [Gk]
  by_cases h0 : s = []
  ·rw [if_pos h0, if_pos h0]
  rw [if_neg h0, if_neg h0]
  by_cases h3 : acc.length = 1000
  ·rw [if_pos h3, if_pos h3]
  rw [if_neg h3, if_neg h3]
  by_cases h4 : (rd s).2.2 = 3
  ·rw [if_pos h4, if_pos h4]
  rw [if_neg h4, if_neg h4]
  by_cases h5 : (rd s).2.2 = 0
  ·rw [if_neg (by simp [h5]), if_neg (by simp [h5])]
   have := hg s hs h5
   have hl : 0 < s.length := List.length_pos_iff.2 h0
   exact Q3j hg k k' _ _ (by rw [List.length_drop]; omega) (by rw [List.length_drop]; omega) (by rw [List.length_drop]; omega)
  ·rw [if_pos h5, if_pos h5]
theorem Qb0 (m : Nat) : ∀ s : List UInt8, s.length ≤ 600000 → (Yj (Vl m) s).2.2 = 0 → 1 ≤ (Yj (Vl m) s).2.1 := fun s hs he => by
 have := (G3 (Jy m)).2 s hs he
 omega
theorem Qf2 {N : Nat} (hN : N = 800000000) {s0 : List UInt8} {l : Qc} {m : Nat} (hm : l.MaxDepth = (m : Int)) (hm2 : m ≤ 32) {v1 : Int × Int} {b5 b7 : UInt8} {v10 : Int} : ∀ (n : Nat) (left : List UInt8) (acc : List Q0), left.length ≤ 600000 → left.length < n → acc.length ≤ 1000 →
  Yg N s0 l v1 b5 b7 v10 n left acc = some (Qj1 (Gk (Yj (Vl m)) n left acc) fun vs => (⟨IntKind.i64.wrap (b7.toNat : Int), IntKind.i64.wrap v10, (s0.take (IntKind.i64.wrap (4 * IntKind.i64.wrap (b5.toNat : Int))).toNat).drop 8, vs⟩, v1.1, 0))
 | 0, left, acc, _, h, _ => by omega
 | n + 1, left, acc, hl, hn, ha => by
  simp only [Yg, Qw, Q5w, Vw, Vb, Gk, hm]
  by_cases h0 : left = []
  ·rw [if_neg (by simp [h0]), if_pos h0, Qhl]
  rw [if_pos h0, if_neg h0]
  by_cases h3 : acc.length = 1000
  ·rw [if_pos (by omega), if_pos h3, Q65 _ (by decide)]; rfl
  rw [if_neg (by omega), if_neg h3, Qjl m N left hm2 (by omega) hl]
  simp only [Option.bind_some]
  by_cases h4 : (Yj (Vl m) left).2.2 = 3
  ·rw [if_pos h4, if_pos h4, Q65 _ (by decide)]; rfl
  rw [if_neg h4, if_neg h4]
  by_cases h5 : (Yj (Vl m) left).2.2 = 0
  ·rw [if_neg (show ¬ ((Yj (Vl m) left).2.2 ≠ 0) by simp [h5]), if_neg (show ¬ ((Yj (Vl m) left).2.2 ≠ 0) by simp [h5])]
   have g1 := Qb0 m left hl h5
   have g2 := ((G3 (Jy m)).1 left hl h5).2.1
   have hp : 0 < left.length := List.length_pos_iff.2 h0
   rw [if_pos (by rw [Nat.ble_eq]; omega), if_pos (by simp; omega), if_pos (by simp [Nat.ble_eq]; omega), List.take_length]
   exact Qf2 hN hm hm2 n _ _ (by rw [List.length_drop]; omega) (by rw [List.length_drop]; omega) (by simp; omega)
  ·rw [if_pos h5, if_pos (show (Yj (Vl m) left).2.2 ≠ 0 from h5), Q65 _ h5]; rfl
theorem Qdl {N : Nat} (hN : N = 800000000) (s : List UInt8) (l : Qc) (hs : s.length ≤ 600000) : Xs N s l = some (Z6 s l) := by
 simp only [Xs, Q9w hN, Option.bind_some, Qw, Vb, J4, Z6]
 by_cases he : (Y2 s l).2 = 0
 ·rw [if_neg (show ¬ ((Y2 s l).2 ≠ 0) from fun h => h he), if_neg (show ¬ ((Y2 s l).2 ≠ 0) from fun h => h he)]
  obtain ⟨q1, q2, q3, q4, q5, q6, q7, q8⟩ := J5 he
  obtain ⟨r1, r2, r3, r4⟩ := Q6d q1
  rw [q8]
  simp only []
  by_cases hl : s.length < Xp (s.take 4)
  ·rw [if_pos (by omega), if_pos hl]; rfl
  rw [if_neg (by omega), if_neg hl]
  obtain ⟨a0, a1, a2, a3, a4, a5, a6, a7, t, rfl⟩ := Qgd q2
  have i4 : idx (a0 :: a1 :: a2 :: a3 :: a4 :: a5 :: a6 :: a7 :: t) 4 = some a4 := rfl
  have i5 : idx (a0 :: a1 :: a2 :: a3 :: a4 :: a5 :: a6 :: a7 :: t) 5 = some a5 := rfl
  have e6 : ((a0 :: a1 :: a2 :: a3 :: a4 :: a5 :: a6 :: a7 :: t).take 8).drop 6 = [a6, a7] := rfl
  have e4 : (a0 :: a1 :: a2 :: a3 :: a4 :: a5 :: a6 :: a7 :: t).getD 4 0 = a4 := rfl
  have e5 : (a0 :: a1 :: a2 :: a3 :: a4 :: a5 :: a6 :: a7 :: t).getD 5 0 = a5 := rfl
  have b4 := a4.toNat_lt
  have b7 := Qmf a6 a7
  rw [e4] at q5 q6
  have ew : IntKind.i64.wrap (4 * IntKind.i64.wrap (a4.toNat : Int)) = ((4 * a4.toNat : Nat) : Int) := by
   rw [Qco, Ya _ (by omega)]; push_cast; rfl
  rw [i4, i5]
  simp only [Option.bind_some, ew, Int.toNat_natCast]
  rw [if_pos (by simp [Nat.ble_eq]), e6, Q3s N [a6, a7] (by simp) (by omega)]
  simp only [Option.bind_some]
  rw [if_pos (by rw [decide_eq_true_eq]; omega), if_pos (by simp only [Nat.ble_eq, Bool.and_eq_true]; omega), if_pos (by rw [decide_eq_true_eq]; omega), if_pos (by simp only [Nat.ble_eq, Bool.and_eq_true]; omega)]
  have hm : l.MaxDepth = ((l.MaxDepth.toNat : Nat) : Int) := by omega
  have hdl : (((a0 :: a1 :: a2 :: a3 :: a4 :: a5 :: a6 :: a7 :: t).take (Xp ((a0 :: a1 :: a2 :: a3 :: a4 :: a5 :: a6 :: a7 :: t).take 4))).drop (4 * a4.toNat)).length ≤ 600000 := by
   rw [List.length_drop, List.length_take]; omega
  rw [Qf2 hN hm (by omega) N _ _ hdl (by omega) (by simp)]
  unfold Q3o Q8t
  rw [e4, e5, e6, Q3j (Qb0 _) N (_ + 1) _ [] hdl (by rw [hN]; omega) (Nat.lt_succ_self _), ew, Qco]
  simp only [Int.toNat_natCast, Ya ((Xp [a6, a7] : Nat) : Int) (by omega)]
 ·rw [if_pos he, if_pos he]; rfl
end
end Go.Av
namespace Go.Av
noncomputable section
open Go.Proofs
set_option maxRecDepth 100000
end
end Go.Av
namespace Go.Av
noncomputable section
open Go.Proofs
set_option maxRecDepth 100000
theorem Qf1 {s s' : List UInt8} (l : Qc) (h : 8 ≤ s.length) (h' : 8 ≤ s'.length) (e : s.take 8 = s'.take 8) : Y2 s l = Y2 s' l := by
 obtain ⟨a0, a1, a2, a3, a4, a5, a6, a7, t, rfl⟩ := Qgd h
 obtain ⟨b0, b1, b2, b3, b4, b5, b6, b7, t', rfl⟩ := Qgd h'
 simp only [List.take_succ_cons, List.take_zero, List.cons.injEq, and_true] at e
 obtain ⟨rfl, rfl, rfl, rfl, rfl, rfl, rfl, rfl⟩ := e
 unfold Y2
 rw [if_neg (show ¬ (_ < 8) by simp), if_neg (show ¬ ((a0 :: a1 :: a2 :: a3 :: a4 :: a5 :: a6 :: a7 :: t').length < 8) by simp)]
 rfl
end
end Go.Av
namespace Go.Av
noncomputable section
open Go.Proofs
set_option maxRecDepth 100000
end
end Go.Av
namespace Go.Av
noncomputable section
open Go.Proofs
set_option maxRecDepth 100000
theorem Q8b {s : List UInt8} {l : Qc} (h8 : 8 ≤ s.length) (t : List UInt8) : Y2 (s ++ t) l = Y2 s l :=
 Qf1 l (by rw [List.length_append]; omega) h8 (by rw [List.take_append_of_le_length h8])
theorem Q5c {s : List UInt8} {l : Qc} (h : X8 l = false) : Y2 s l = (0, 2) := by unfold Y2; rw [if_pos h]
theorem Qao {s : List UInt8} {l : Qc} (h : X8 l = true) (h8 : s.length < 8) : Y2 s l = (0, 3) := by unfold Y2; rw [if_neg (by simp [h]), if_pos h8]
theorem Q3c {s : List UInt8} {l : Qc} (h8 : 8 ≤ s.length) : (Y2 s l).2 ≠ 3 := by
 unfold Y2
 split
 ·decide
 ·split
  ·omega
  ·split
   ·decide
   ·split
    ·decide
    ·split <;> simp
theorem Q3r {rd : List UInt8 → Rd} : ∀ (k : Nat) (s : List UInt8) (acc : List Q0), (Gk rd k s acc).2 ≠ 3
 | 0, _, _ => by unfold Gk; decide
 | k + 1, s, acc => by
  unfold Gk
  split
  ·simp
  ·split
   ·simp
   ·split
    ·simp
    ·split
     ·assumption
     ·exact Q3r k _ _
theorem Qc0 (s : List UInt8) (n m : Nat) : (Q3o s n m).2.2 ≠ 3 := by
 unfold Q3o Qj1
 split
 ·exact Q3r _ _ _
 ·simp
theorem W0 {s : List UInt8} {l : Qc} (hr : X8 l = true) : (Z6 s l).2.2 = 3 ↔ s.length < 8 ∨ (Y2 s l).2 = 0 ∧ s.length < Xp (s.take 4) := by
 unfold Z6
 by_cases h8 : s.length < 8
 ·rw [Qao hr h8]; simp [h8]
 ·have h3 := Q3c (s := s) (l := l) (by omega)
  by_cases h0 : (Y2 s l).2 = 0
  ·rw [if_neg (by simp [h0])]
   by_cases hn : s.length < Xp (s.take 4)
   ·rw [if_pos hn]; simp [h0, hn]
   ·rw [if_neg hn]; simp [h0, hn, h8, Qc0]
  ·rw [if_pos h0]; simp [h0, h8, h3]
theorem Q59 {s : List UInt8} {l : Qc} (hr : X8 l = false) : Z6 s l = (Q97, 0, 2) := by
 unfold Z6; rw [Q5c hr]; simp
theorem Q8h {s : List UInt8} {l : Qc} (h : (Z6 s l).2.2 ≠ 3) (t : List UInt8) : Z6 (s ++ t) l = Z6 s l := by
 by_cases hr : X8 l = false
 ·rw [Q59 hr, Q59 hr]
 ·have hr' : X8 l = true := by simpa using hr
  have hs := (not_congr (W0 (s := s) hr')).1 h
  have h8 : 8 ≤ s.length := by omega
  have hh := Q8b (l := l) h8 t
  unfold Z6
  rw [hh]
  by_cases h0 : (Y2 s l).2 = 0
  ·have hn : ¬ s.length < Xp (s.take 4) := fun hn => hs (.inr ⟨h0, hn⟩)
   have ht : (s ++ t).take 4 = s.take 4 := List.take_append_of_le_length (by omega)
   have hn' : Xp (s.take 4) ≤ s.length := by omega
   rw [ht, if_neg (show ¬ ((Y2 s l).2 ≠ 0) from fun q => q h0), if_neg (show ¬ ((Y2 s l).2 ≠ 0) from fun q => q h0), if_neg (by rw [List.length_append]; omega), if_neg hn]
   obtain ⟨_, _, _, _, _, q6, _, _⟩ := J5 h0
   have e4 := (show (s ++ t).getD 4 0 = s.getD 4 0 by simp [List.getD, List.getElem?_append_left (show 4 < s.length by omega)])
   have e5 := (show (s ++ t).getD 5 0 = s.getD 5 0 by simp [List.getD, List.getElem?_append_left (show 5 < s.length by omega)])
   have eb : Q8t (s ++ t) (Xp (s.take 4)) = Q8t s (Xp (s.take 4)) := by
    unfold Q8t; rw [e4, List.take_append_of_le_length hn']
   unfold Q3o
   rw [eb, e4, e5, List.take_append_of_le_length h8, List.take_append_of_le_length (show 4 * (s.getD 4 0).toNat ≤ s.length by omega)]
  ·rw [if_pos h0, if_pos h0]
noncomputable def Jg (l : Qc) : Nat → List UInt8 → List Q6 → Int → List Q6 × List UInt8 × Int × Int
 | 0, s, acc, p => (acc, s, p, 0)
 | k + 1, s, acc, p => if (Z6 s l).2.2 = 3 then (acc, s, p, 0) else if (Z6 s l).2.2 ≠ 0 then (acc, [], p, (Z6 s l).2.2)
  else Jg l k (s.drop (Z6 s l).2.1.toNat) (acc ++ [(Z6 s l).1]) (p + (Z6 s l).2.1)
theorem Ug {l : Qc} {s : List UInt8} (h : (Z6 s l).2.2 = 3) (k : Nat) (acc : List Q6) (p : Int) : Jg l k s acc p = (acc, s, p, 0) := by
 cases k with
 | zero => rfl
 | succ k => unfold Jg; rw [if_pos h]
theorem Jt {l : Qc} {s : List UInt8} (h3 : (Z6 s l).2.2 ≠ 3) (h0 : (Z6 s l).2.2 ≠ 0) (k : Nat) (acc : List Q6) (p : Int) : Jg l (k + 1) s acc p = (acc, [], p, (Z6 s l).2.2) := by
 conv => lhs; unfold Jg
 rw [if_neg h3, if_pos h0]
theorem Q0z {l : Qc} {s : List UInt8} (h0 : (Z6 s l).2.2 = 0) (k : Nat) (acc : List Q6) (p : Int) : Jg l (k + 1) s acc p = Jg l k (s.drop (Z6 s l).2.1.toNat) (acc ++ [(Z6 s l).1]) (p + (Z6 s l).2.1) := by
 conv => lhs; unfold Jg
 rw [if_neg (by omega), if_neg (by simp [h0])]
theorem Uo {s : List UInt8} {l : Qc} (h : (Z6 s l).2.2 = 0) : 8 ≤ (Z6 s l).2.1 ∧ (Z6 s l).2.1 ≤ s.length ∧ (Z6 s l).2.1 ≤ l.MaxPacket ∧ X8 l = true := by
 have hh : (Y2 s l).2 = 0 := by
  unfold Z6 at h
  split at h
  ·exact h
  ·rename_i hq; exact Classical.byContradiction hq
 obtain ⟨q1, q2, q3, q4, q5, q6, q7, q8⟩ := J5 hh
 unfold Z6 at h ⊢
 rw [if_neg (show ¬ ((Y2 s l).2 ≠ 0) from fun h => h hh)] at h ⊢
 split at h
 ·cases h
 ·rename_i hn
  rw [if_neg hn]
  unfold Q3o Qj1 at h ⊢
  split at h
  ·rename_i hx; exact absurd h hx
  ·rename_i hx
   rw [if_neg hx]
   exact ⟨by simp only []; omega, by simp only []; omega, by simp only []; omega, q1⟩
theorem Q57 {l : Qc} : ∀ (k k' : Nat) (s : List UInt8) (acc : List Q6) (p : Int), s.length < k → s.length < k' → Jg l k s acc p = Jg l k' s acc p
 | 0, _, _, _, _, h, _ => by omega
 | _, 0, _, _, _, _, h => by omega
 | k + 1, k' + 1, s, acc, p, h, h' => by
  by_cases h3 : (Z6 s l).2.2 = 3
  ·rw [Ug h3, Ug h3]
  ·by_cases h0 : (Z6 s l).2.2 = 0
   ·obtain ⟨q1, q2, _⟩ := Uo h0
    rw [Q0z h0, Q0z h0]
    exact Q57 k k' _ _ _ (by rw [List.length_drop]; omega) (by rw [List.length_drop]; omega)
   ·rw [Jt h3 h0, Jt h3 h0]
theorem Q3y {l : Qc} : ∀ (k : Nat) (s : List UInt8) (acc : List Q6) (p : Int), Jg l k s acc p = (acc ++ (Jg l k s [] 0).1, (Jg l k s [] 0).2.1, p + (Jg l k s [] 0).2.2.1, (Jg l k s [] 0).2.2.2)
 | 0, s, acc, p => by simp [Jg]
 | k + 1, s, acc, p => by
  by_cases h3 : (Z6 s l).2.2 = 3
  ·rw [Ug h3, Ug h3]; simp
  ·by_cases h0 : (Z6 s l).2.2 = 0
   ·rw [Q0z h0, Q0z h0, Q3y k _ (acc ++ [(Z6 s l).1]), Q3y k _ ([] ++ [(Z6 s l).1])]
    simp only [List.append_assoc, List.nil_append, Int.add_assoc, Int.zero_add]
   ·rw [Jt h3 h0, Jt h3 h0]; simp
noncomputable def Qo (l : Qc) (s : List UInt8) : List Q6 × List UInt8 × Int × Int := Jg l (s.length + 1) s [] 0
theorem Qel {l : Qc} {s : List UInt8} (k : Nat) (h : s.length < k) (acc : List Q6) (p : Int) : Jg l k s acc p = (acc ++ (Qo l s).1, (Qo l s).2.1, p + (Qo l s).2.2.1, (Qo l s).2.2.2) := by
 rw [Q57 k (s.length + 1) s acc p h (by omega), Q3y]; rfl
theorem Xb {l : Qc} {s : List UInt8} (h : (Z6 s l).2.2 = 3) : Qo l s = ([], s, 0, 0) := Ug h _ _ _
theorem Vo {l : Qc} {s : List UInt8} (h3 : (Z6 s l).2.2 ≠ 3) (h0 : (Z6 s l).2.2 ≠ 0) : Qo l s = ([], [], 0, (Z6 s l).2.2) := Jt h3 h0 _ _ _
theorem Jo {l : Qc} {s : List UInt8} (h0 : (Z6 s l).2.2 = 0) : Qo l s = ((Z6 s l).1 :: (Qo l (s.drop (Z6 s l).2.1.toNat)).1, (Qo l (s.drop (Z6 s l).2.1.toNat)).2.1, (Z6 s l).2.1 + (Qo l (s.drop (Z6 s l).2.1.toNat)).2.2.1, (Qo l (s.drop (Z6 s l).2.1.toNat)).2.2.2) := by
 obtain ⟨q1, q2, _⟩ := Uo h0
 unfold Qo
 rw [Q0z h0, Qel _ (by rw [List.length_drop]; omega)]
 simp [Qo]
theorem Ja {l : Qc} (hr : X8 l = true) : ∀ (n : Nat) (s : List UInt8), s.length ≤ n →
  ((Qo l s).2.2.2 ≠ 0 ∧ (Qo l s).2.1 = [] ∨ (Qo l s).2.2.2 = 0 ∧ (Z6 (Qo l s).2.1 l).2.2 = 3 ∧ (Qo l s).2.2.1 + (Qo l s).2.1.length = s.length) ∧ 0 ≤ (Qo l s).2.2.1 ∧ (Qo l s).2.2.1 ≤ s.length ∧ (Qo l s).2.2.2 ≠ 3
 | 0, s, hn => by
  have h3 : (Z6 s l).2.2 = 3 := (W0 hr).2 (.inl (by omega))
  rw [Xb h3]; simp [h3]
 | n + 1, s, hn => by
  by_cases h3 : (Z6 s l).2.2 = 3
  ·rw [Xb h3]; simp [h3]
  ·by_cases h0 : (Z6 s l).2.2 = 0
   ·obtain ⟨q1, q2, _⟩ := Uo h0
    rw [Jo h0]
    obtain ⟨a, b, c, d⟩ := Ja hr n (s.drop (Z6 s l).2.1.toNat) (by rw [List.length_drop]; omega)
    rw [List.length_drop] at a c
    refine ⟨?_, by simp only []; omega, by simp only []; omega, d⟩
    rcases a with a | ⟨a1, a2, a3⟩
    ·exact .inl a
    ·exact .inr ⟨a1, a2, by simp only []; omega⟩
   ·rw [Vo h3 h0]; simp [h0, h3]
theorem Q51 {l : Qc} (t : List UInt8) : ∀ (n : Nat) (s : List UInt8), s.length ≤ n → Qo l (s ++ t) = if (Qo l s).2.2.2 ≠ 0 then Qo l s else
  ((Qo l s).1 ++ (Qo l ((Qo l s).2.1 ++ t)).1, (Qo l ((Qo l s).2.1 ++ t)).2.1, (Qo l s).2.2.1 + (Qo l ((Qo l s).2.1 ++ t)).2.2.1, (Qo l ((Qo l s).2.1 ++ t)).2.2.2)
 | n, s, hn => by
  by_cases h3 : (Z6 s l).2.2 = 3
  ·rw [Xb h3]; simp
  ·have hm := Q8h h3 t
   by_cases h0 : (Z6 s l).2.2 = 0
   ·obtain ⟨q1, q2, _⟩ := Uo h0
    match n, hn with
    | 0, hn => omega
    | n + 1, hn =>
     have ih := Q51 (l := l) t n (s.drop (Z6 s l).2.1.toNat) (by rw [List.length_drop]; omega)
     have h0' : (Z6 (s ++ t) l).2.2 = 0 := by rw [hm]; exact h0
     rw [Jo h0', hm, List.drop_append_of_le_length (by omega), ih, Jo h0]
     simp only []
     by_cases he : (Qo l (s.drop (Z6 s l).2.1.toNat)).2.2.2 = 0
     ·rw [if_neg (by simp [he]), if_neg (by simp [he])]
      simp [Int.add_assoc]
     ·rw [if_pos he, if_pos he]
   ·have h0' : (Z6 (s ++ t) l).2.2 ≠ 0 := by rw [hm]; exact h0
    rw [Vo (by rw [hm]; exact h3) h0', hm, Vo h3 h0]
    simp [h0]
end
end Go.Av
namespace Go.Av
noncomputable section
open Go.Proofs
set_option maxRecDepth 100000
abbrev Qfb := Q5
theorem Qbe (s : List UInt8) (a b : Nat) : (((Q0a s : List Int).drop a).take b).map (fun n => UInt8.ofNat n.toNat) = (s.drop a).take b := by
 simp only [Q0a, ← List.map_drop, ← List.map_take]
 exact Qd7 _
theorem Qe2 {N : Nat} (hN : N = 800000000) (l : Qc) (s : List UInt8) (i : Nat) (hi : i ≤ s.length) (p need e : Int) (q : Nat) (out : List Q6) :
  Zi N ⟨l, Q0a s, (i : Int), p, need, e, q, out⟩ = some (if (s.drop i).length < 8 then (false, ⟨l, Q0a s, (i : Int), p, need, e, q, out⟩)
   else if (Y2 (s.drop i) l).2 ≠ 0 then (false, ⟨l, [], 0, p, 0, (Y2 (s.drop i) l).2, q, out⟩) else (true, ⟨l, Q0a s, (i : Int), p, (Y2 (s.drop i) l).1, e, Z9, out⟩)) := by
 simp only [Zi, Qw, J4, Vb, U5, Int.toNat_natCast]
 rw [if_pos (by simp), if_pos (by simp [Nat.ble_eq]; exact hi), List.length_drop]
 by_cases h : s.length - i < 8
 ·rw [if_pos (by omega), if_pos h]
 ·rw [if_neg (by omega), if_neg h, if_pos (by simp [Nat.ble_eq]; omega), Qbe, Q9w hN]
  simp only [Option.bind_some, Nat.zero_add, Nat.mul_one]
  have e8 : Y2 ((s.drop i).take 8) l = Y2 (s.drop i) l := Qf1 l (by rw [List.length_take, List.length_drop]; omega) (by rw [List.length_drop]; omega) (by rw [List.take_take]; rfl)
  rw [e8]
  by_cases he : (Y2 (s.drop i) l).2 = 0
  ·rw [if_neg (show ¬ ((Y2 (s.drop i) l).2 ≠ 0) from fun k => k he), if_neg (show ¬ ((Y2 (s.drop i) l).2 ≠ 0) from fun k => k he)]
  ·rw [if_pos (show (Y2 (s.drop i) l).2 ≠ 0 from he), if_pos (show (Y2 (s.drop i) l).2 ≠ 0 from he)]
   simp only [Zr, Option.bind_some]
theorem Qig {α : Type} (l : List α) (a b : α) : (l ++ [a]).set l.length b = l ++ [b] := by simp
theorem Qhs {α : Type} (l : List α) (a : α) : idx (l ++ [a]) (l.length : Int) = some a := by simp [idx]
theorem Qdc {N : Nat} (hN : N = 800000000) {l : Qc} {s : List UInt8} {i : Nat} (hi : i ≤ s.length) (hs : s.length ≤ 300000) {p need : Int} (e : Int) (q : Nat) {out : List Q6} (hp : 0 ≤ p ∧ p ≤ 1000000000000) (ho : out.length ≤ 300000)
  (hd : Y2 (s.drop i) l = (need, 0)) : Zf N ⟨l, Q0a s, (i : Int), p, need, e, q, out⟩ = some (if (Z6 (s.drop i) l).2.2 = 3 then (false, ⟨l, Q0a s, (i : Int), p, need, e, q, out⟩)
   else if (Z6 (s.drop i) l).2.2 ≠ 0 then (false, ⟨l, [], 0, p, 0, (Z6 (s.drop i) l).2.2, q, out⟩)
   else (true, ⟨l, Q0a s, ((i + (Z6 (s.drop i) l).2.1.toNat : Nat) : Int), p + (Z6 (s.drop i) l).2.1, need, e, Qp, out ++ [(Z6 (s.drop i) l).1]⟩)) := by
 obtain ⟨q1, q2, q3, q4, q5, q6, q7, q8⟩ := J5 (show (Y2 (s.drop i) l).2 = 0 by rw [hd])
 rw [hd] at q8
 have hnd : need = (Xp ((s.drop i).take 4) : Int) := by
  have := congrArg Prod.fst q8
  simpa using this
 have hsh := W0 (s := s.drop i) q1
 rw [hd] at hsh
 have hL : (s.drop i).length = s.length - i := List.length_drop
 rw [hL] at q2
 simp only [Zf, Qw, J4, Vb, U5, Int.toNat_natCast]
 rw [if_pos (by simp), if_pos (by simp [Nat.ble_eq]; exact hi)]
 by_cases h : s.length - i < Xp ((s.drop i).take 4)
 ·rw [if_pos (by omega), if_pos (hsh.2 (.inr ⟨rfl, by rw [hL]; exact h⟩))]
 ·have h3 : (Z6 (s.drop i) l).2.2 ≠ 3 := fun k => by
   rcases hsh.1 k with k | ⟨_, k⟩ <;> rw [hL] at k <;> omega
  have ht : need.toNat = Xp ((s.drop i).take 4) := by rw [hnd]; simp
  have hrd : Z6 ((s.drop i).take need.toNat) l = Z6 (s.drop i) l := by
   have hh : Y2 ((s.drop i).take need.toNat) l = Y2 (s.drop i) l := Qf1 l (by rw [List.length_take, hL]; omega) (by rw [hL]; omega) (by rw [List.take_take]; congr 1; omega)
   have h4 : ((s.drop i).take need.toNat).take 4 = (s.drop i).take 4 := by rw [List.take_take]; congr 1; omega
   have hk : (Z6 ((s.drop i).take need.toNat) l).2.2 ≠ 3 := fun k => by
    rcases (W0 q1).1 k with k | ⟨_, k⟩
    ·rw [List.length_take, hL] at k; omega
    ·rw [h4, List.length_take, hL] at k; omega
   have := Q8h hk ((s.drop i).drop need.toNat)
   rw [List.take_append_drop] at this
   exact this.symm
  rw [if_neg (by omega), if_neg h3, if_pos (by rw [decide_eq_true_eq]; omega), if_pos (by simp [Nat.ble_eq]; omega), Qbe]
  simp only [Nat.zero_add, Nat.mul_one]
  rw [Qdl hN _ _ (by rw [List.length_take, hL]; omega), hrd]
  simp only [Option.bind_some]
  by_cases he : (Z6 (s.drop i) l).2.2 = 0
  ·obtain ⟨m1, m2, m3, m4⟩ := Uo he
   rw [hL] at m2
   rw [if_neg (show ¬ ((Z6 (s.drop i) l).2.2 ≠ 0) from fun k => k he), if_neg (show ¬ ((Z6 (s.drop i) l).2.2 ≠ 0) from fun k => k he), if_pos (by rw [Nat.ble_eq]; omega), Qhs]
   simp only [Option.bind_some, Qig]
   rw [Ya _ (by omega), Ya _ (by omega)]
   congr 4
   omega
  ·rw [if_pos (show (Z6 (s.drop i) l).2.2 ≠ 0 from he), if_pos (show (Z6 (s.drop i) l).2.2 ≠ 0 from he)]
   simp only [Zr, Option.bind_some]
def Qke (x : Qfb) : Option ((List Q6 × Int) × Qfb) :=
  cond (Qe .gtr x.from' 0)
  (cond (decide (0 ≤ x.from')) (cond (Nat.ble x.from'.toNat x.kept.length && Nat.ble x.kept.length x.kept.length) (cond (Nat.ble 1 x.kept.length) (cond (Nat.ble 0 (((((x.kept : List Int).drop (0 + x.from'.toNat * 1)).take (x.kept.length - x.from'.toNat)).take x.kept.length).length) && Nat.ble (((((x.kept : List Int).drop (0 + x.from'.toNat * 1)).take (x.kept.length - x.from'.toNat)).take x.kept.length).length) x.kept.length) (some ((x.out, x.e), (⟨x.l, (((((((x.kept : List Int).drop (0 + x.from'.toNat * 1)).take (x.kept.length - x.from'.toNat)).take x.kept.length) ++ (x.kept : List Int).drop ((((x.kept : List Int).drop (0 + x.from'.toNat * 1)).take (x.kept.length - x.from'.toNat)).take x.kept.length).length) : List Int).take (((((x.kept : List Int).drop (0 + x.from'.toNat * 1)).take (x.kept.length - x.from'.toNat)).take x.kept.length).length)), 0, x.at', x.need, x.e, x.next, []⟩ : Q5))) none) none) none) none)
  (some ((x.out, x.e), (⟨x.l, x.kept, x.from', x.at', x.need, x.e, x.next, []⟩ : Q5)))
theorem Q70 (l : Qc) (s : List UInt8) (i : Nat) (hi : i ≤ s.length) (p need e : Int) (q : Nat) (out : List Q6) : Qke ⟨l, Q0a s, (i : Int), p, need, e, q, out⟩ = some ((out, e), ⟨l, Q0a (s.drop i), 0, p, need, e, q, []⟩) := by
 simp only [Qke, Qw, Q1m, U5, Int.toNat_natCast, Nat.zero_add, Nat.mul_one]
 by_cases h0 : i = 0
 ·subst h0
  rw [if_neg (by simp)]; rfl
 ·have e1 : ((Q0a s).drop i).take (s.length - i) = Q0a (s.drop i) := by
   rw [List.take_of_length_le (by rw [List.length_drop, U5]; omega)]
   simp [Q0a]
  have e2 : (Q0a (s.drop i)).take s.length = Q0a (s.drop i) := List.take_of_length_le (by rw [U5, List.length_drop]; omega)
  rw [if_pos (by omega), if_pos (by simp), if_pos (by simp [Nat.ble_eq]; exact hi), if_pos (by rw [Nat.ble_eq]; omega), e1, e2, if_pos (by simp [Nat.ble_eq, U5]), List.take_left]
theorem Qhg (N n : Nat) (l : Qc) (i p need e : Int) (q : Nat) (k : List Int) (out : List Q6) : Qd N (n + 1) l.MaxPacket l.MaxDepth i p need e q k out =
  cond (Nat.beq q Qp) ((Zi N ⟨l, k, i, p, need, e, Qp, out⟩).bind fun v => cond v.1 (Qd N n v.2.l.MaxPacket v.2.l.MaxDepth v.2.from' v.2.at' v.2.need v.2.e v.2.next v.2.kept v.2.out) (Qke v.2))
  (cond (Nat.beq q Z9) ((Zf N ⟨l, k, i, p, need, e, Z9, out⟩).bind fun v => cond v.1 (Qd N n v.2.l.MaxPacket v.2.l.MaxDepth v.2.from' v.2.at' v.2.need v.2.e v.2.next v.2.kept v.2.out) (Qke v.2)) none) := rfl
theorem Qkq (N : Nat) : Z7 N = Qd N := by
 funext n
 induction n with
 | zero => rfl
 | succ n ih =>
  funext a b c d e f q k o
  simp only [Qd, Z7, ih]
def Qfn (l : Qc) (s : List UInt8) (need : Int) (q : Nat) : Prop := q = Qp ∨ q = Z9 ∧ Y2 s l = (need, 0)
theorem Q1q {N : Nat} (hN : N = 800000000) {l : Qc} (hr : X8 l = true) {s : List UInt8} (hs : s.length ≤ 300000) : ∀ (n i : Nat) (p need : Int) (q : Nat) (out : List Q6), i ≤ s.length → Qfn l (s.drop i) need q →
  2 * (s.length - i) + (if q = Qp then 2 else 1) ≤ n → 0 ≤ p → p + (s.length - i : Nat) ≤ 1000000000000 → out.length + (s.length - i) ≤ 300000 →
  ∃ need' q', ((Qo l (s.drop i)).2.2.2 = 0 → Qfn l (Qo l (s.drop i)).2.1 need' q') ∧ Qd N n l.MaxPacket l.MaxDepth (i : Int) p need 0 q (Q0a s) out =
   some ((out ++ (Qo l (s.drop i)).1, (Qo l (s.drop i)).2.2.2), ⟨l, Q0a (Qo l (s.drop i)).2.1, 0, p + (Qo l (s.drop i)).2.2.1, need', (Qo l (s.drop i)).2.2.2, q', []⟩)
 | 0, i, p, need, q, out, _, _, h, _, _, _ => by split at h <;> omega
 | n + 1, i, p, need, q, out, hi, hw, hn, hp, hp2, ho => by
  have hL : (s.drop i).length = s.length - i := List.length_drop
  rw [Qhg]
  rcases hw with rfl | ⟨rfl, hd⟩
  ·rw [Qe2 hN l s i hi]
   simp only [Qw, Option.bind_some]
   rw [if_pos (show Nat.beq Qp Qp = true from rfl)]
   rw [if_pos rfl] at hn
   by_cases h8 : (s.drop i).length < 8
   ·have h3 : (Z6 (s.drop i) l).2.2 = 3 := (W0 hr).2 (.inl h8)
    rw [if_pos h8, if_neg (by simp), Xb h3, Q70 l s i hi]
    exact ⟨need, _, fun _ => .inl rfl, by simp⟩
   ·rw [if_neg h8]
    by_cases h0 : (Y2 (s.drop i) l).2 = 0
    ·rw [if_neg (show ¬ ((Y2 (s.drop i) l).2 ≠ 0) from fun k => k h0)]
     simp only [if_true]
     exact Q1q hN hr hs n i p _ _ out hi (.inr ⟨rfl, Prod.ext rfl h0⟩) (by rw [if_neg (by decide)]; omega) hp hp2 ho
    ·have hre : Z6 (s.drop i) l = (Q97, 0, (Y2 (s.drop i) l).2) := by unfold Z6; rw [if_pos h0]
     have h3 : (Y2 (s.drop i) l).2 ≠ 3 := Q3c (by omega)
     rw [if_pos (show (Y2 (s.drop i) l).2 ≠ 0 from h0), if_neg (by simp), Vo (by rw [hre]; exact h3) (by rw [hre]; exact h0), hre]
     refine ⟨0, Qp, fun k => absurd k h0, ?_⟩
     simp only []
     rw [show ([] : List Int) = Q0a [] from rfl, show (0 : Int) = ((0 : Nat) : Int) from rfl, Q70 l [] 0 (Nat.le_refl _)]
     simp
  ·rw [Qdc hN hi hs 0 _ (by omega) (by omega) hd]
   simp only [Qw, Option.bind_some]
   rw [if_neg (show ¬ Nat.beq Z9 Qp = true by decide), if_pos (show Nat.beq Z9 Z9 = true from rfl)]
   rw [if_neg (by decide)] at hn
   by_cases h3 : (Z6 (s.drop i) l).2.2 = 3
   ·rw [if_pos h3, if_neg (by simp), Xb h3, Q70 l s i hi]
    exact ⟨need, _, fun _ => .inr ⟨rfl, hd⟩, by simp⟩
   ·rw [if_neg h3]
    by_cases h0 : (Z6 (s.drop i) l).2.2 = 0
    ·obtain ⟨m1, m2, m3, m4⟩ := Uo h0
     rw [hL] at m2
     rw [if_neg (show ¬ ((Z6 (s.drop i) l).2.2 ≠ 0) from fun k => k h0)]
     simp only [if_true]
     obtain ⟨need', q', w, ih⟩ := Q1q hN hr hs n (i + (Z6 (s.drop i) l).2.1.toNat) (p + (Z6 (s.drop i) l).2.1) need Qp (out ++ [(Z6 (s.drop i) l).1]) (by omega) (.inl rfl) (by rw [if_pos rfl]; omega) (by omega) (by omega) (by rw [List.length_append]; simp only [List.length_cons, List.length_nil]; omega)
     rw [ih, Jo h0, List.drop_drop]
     exact ⟨need', q', w, by simp [Int.add_assoc]⟩
    ·rw [if_pos (show (Z6 (s.drop i) l).2.2 ≠ 0 from h0), if_neg (by simp), Vo h3 h0]
     refine ⟨0, Z9, fun k => absurd k h0, ?_⟩
     simp only []
     rw [show ([] : List Int) = Q0a [] from rfl, show (0 : Int) = ((0 : Nat) : Int) from rfl, Q70 l [] 0 (Nat.le_refl _)]
     simp
structure Qdw (x : Qfb) (l : Qc) (s : List UInt8) (p e : Int) : Prop where
 lim : x.l = l
 kept : x.kept = Q0a s
 frm : x.from' = 0
 plc : x.at' = p
 err : x.e = e
 none : x.out = []
 bad : e ≠ 0 → s = []
 Ql5 : e = 0 → (Z6 s l).2.2 = 3
 waits : e = 0 → Qfn l s x.need x.next
theorem Qb2 {N : Nat} {x : Qfb} {l : Qc} {s : List UInt8} {p e : Int} (h : Qdw x l s p e) (he : e ≠ 0) (c : List UInt8) : Qi N x c = some (([], e), x) := by
 simp only [Qi, Qw, Vb, h.err]
 rw [if_pos he]
theorem Qip {N : Nat} (hN : N = 800000000) {x : Qfb} {l : Qc} (hr : X8 l = true) {s : List UInt8} {p : Int} (h : Qdw x l s p 0) (c : List UInt8) (hs : s.length + c.length ≤ 100000) (hp : 0 ≤ p) (hp2 : p + s.length + c.length ≤ 1000000000000) :
  ∃ x', Qi N x c = some (((Qo l (s ++ c)).1, (Qo l (s ++ c)).2.2.2), x') ∧ Qdw x' l (Qo l (s ++ c)).2.1 (p + (Qo l (s ++ c)).2.2.1) (Qo l (s ++ c)).2.2.2 := by
 obtain ⟨xl, xk, xf, xa, xn, xe, xq, xo⟩ := x
 obtain ⟨h1, h2, h3, h4, h5, h6, h7, h8, h9⟩ := h
 simp only [] at h1 h2 h3 h4 h5 h6 h9
 subst h1 h2 h3 h4 h5 h6
 have hw : Qfn xl (s ++ c) xn xq := by
  rcases h9 (by simp) with q | ⟨q, hd⟩
  ·exact .inl q
  ·refine .inr ⟨q, ?_⟩
   obtain ⟨_, q2, _⟩ := J5 (show (Y2 s xl).2 = 0 by rw [hd])
   rw [Q8b q2]; exact hd
 have key : ∀ k : List Int, k = Q0a (s ++ c) → ∃ x', Qd N N xl.MaxPacket xl.MaxDepth 0 xa xn 0 xq k [] = some (((Qo xl (s ++ c)).1, (Qo xl (s ++ c)).2.2.2), x') ∧ Qdw x' xl (Qo xl (s ++ c)).2.1 (xa + (Qo xl (s ++ c)).2.2.1) (Qo xl (s ++ c)).2.2.2 := fun k hk => by
  subst hk
  have hlen : (s ++ c).length = s.length + c.length := List.length_append
  obtain ⟨need', q', w, ih⟩ := Q1q hN hr (s := s ++ c) (by omega) N 0 xa xn xq [] (Nat.zero_le _) hw (by subst hN; split <;> omega) hp (by simp only [Nat.sub_zero]; omega) (by simp only [List.length_nil, Nat.sub_zero]; omega)
  rw [List.drop_zero] at ih w
  refine ⟨_, ih, rfl, rfl, rfl, rfl, rfl, rfl, fun hb => ?_, fun h0 => ?_, fun h0 => w h0⟩
  ·rcases (Ja hr _ (s ++ c) (Nat.le_refl _)).1 with ⟨_, b⟩ | ⟨b, _⟩
   ·exact b
   ·exact absurd b hb
  ·rcases (Ja hr _ (s ++ c) (Nat.le_refl _)).1 with ⟨b, _⟩ | ⟨_, b, _⟩
   ·exact absurd h0 b
   ·exact b
 simp only [Qi, Qw, Vb]
 rw [if_neg (by simp)]
 by_cases hc : c = []
 ·subst hc
  rw [if_pos (show Nat.beq ([] : List UInt8).length 0 = true from rfl)]
  exact key _ (by simp)
 ·rw [if_neg (by cases c with
   | nil => exact absurd rfl hc
   | cons => simp [Nat.beq_eq]), if_pos (by rw [Nat.ble_eq, U5]; omega), Qkq]
  exact key _ (by rw [Qjt, Qfm])
end
end Go.Av
namespace Go.Av
noncomputable section
open Go.Proofs
set_option maxRecDepth 100000
theorem Qho : Yc 800000000 = some true := by decide +kernel
theorem Qjz (l : Qc) (hr : X8 l = true) : Qdw ⟨l, [], 0, 0, 0, 0, Qp, []⟩ l (Qo l []).2.1 (Qo l []).2.2.1 (Qo l []).2.2.2 := by
 have h3 : (Z6 [] l).2.2 = 3 := (W0 hr).2 (.inl (by simp))
 rw [Xb h3]
 exact ⟨rfl, rfl, rfl, rfl, rfl, rfl, fun _ => rfl, fun _ => h3, fun _ => .inl rfl⟩
theorem Q8p (l : Qc) (hr : X8 l = true) : Qo l [] = ([], [], 0, 0) := Xb ((W0 hr).2 (.inl (by simp)))
theorem Q8q {N : Nat} (hN : N = 800000000) {x : Qfb} {l : Qc} (hr : X8 l = true) {t : List UInt8} (h : Qdw x l (Qo l t).2.1 (Qo l t).2.2.1 (Qo l t).2.2.2) (c : List UInt8) (hs : t.length + c.length ≤ 100000) :
  ∃ fs x', Qi N x c = some ((fs, (Qo l (t ++ c)).2.2.2), x') ∧ Qdw x' l (Qo l (t ++ c)).2.1 (Qo l (t ++ c)).2.2.1 (Qo l (t ++ c)).2.2.2 ∧ (Qo l t).1 ++ fs = (Qo l (t ++ c)).1 ∧ ((Qo l t).2.2.2 = 0 → fs = (Qo l ((Qo l t).2.1 ++ c)).1) := by
 have ha := Q51 (l := l) c _ t (Nat.le_refl _)
 by_cases he : (Qo l t).2.2.2 = 0
 ·rw [if_neg (show ¬ ((Qo l t).2.2.2 ≠ 0) from fun k => k he)] at ha
  rw [he] at h
  have hd := Ja hr _ t (Nat.le_refl _)
  have hl : (Qo l t).2.2.1 + (Qo l t).2.1.length = t.length := by
   rcases hd.1 with ⟨b, _⟩ | ⟨_, _, b⟩
   ·exact absurd he b
   ·exact b
  obtain ⟨x', h1, h2⟩ := Qip hN hr h c (by omega) hd.2.1 (by omega)
  rw [ha]
  exact ⟨_, x', h1, h2, rfl, fun _ => rfl⟩
 ·rw [if_pos he] at ha
  rw [ha]
  exact ⟨[], x, Qb2 h he c, h, by simp, fun k => absurd k he⟩
theorem Qgc {N : Nat} (hN : N = 800000000) (l : Qc) : Y0 N [] l = some (if X8 l = true then (0, 3) else (0, 2)) := by
 rw [Q9w hN]
 by_cases hr : X8 l = true
 ·rw [if_pos hr, Qao hr (by simp)]
 ·rw [if_neg hr, Q5c (by simpa using hr)]
theorem Qf8 {N : Nat} {x : Qfb} {l : Qc} {s : List UInt8} {p e : Int} (h : Qdw x l s p e) : Zh N x = some ((s.length : Int), x) := by
 obtain ⟨xl, xk, xf, xa, xn, xe, xq, xo⟩ := x
 obtain ⟨h1, h2, h3, h4, h5, h6, _, _, _⟩ := h
 simp only [] at h1 h2 h3 h4 h5 h6
 subst h1 h2 h3 h4 h5 h6
 simp only [Zh, Qw, U5]
 rw [if_pos (by simp), if_pos (by simp)]
 simp
theorem Qk8 {N : Nat} {x : Qfb} {l : Qc} {s : List UInt8} {p e : Int} (h : Qdw x l s p e) : Zy N x = some (p, x) := by
 simp only [Zy, h.plc]
end
end Go.Av
namespace Go.Av
noncomputable section
open Go.Proofs
set_option maxRecDepth 100000
end
end Go.Av
namespace Go.Av
noncomputable section
open Go.Proofs
set_option maxRecDepth 100000
theorem Qhf (h i : Nat) (hi : i < 8) : UInt8.ofNat (IntKind.wrap .u8 (U7 .u64 (h : Int) (IntKind.wrap .u64 (IntKind.wrap .i64 (56 - (IntKind.wrap .i64 (8 * (i : Int)))))))).toNat = UInt8.ofNat (h / 256 ^ (7 - i) % 256) := by
 rw [Ya (8 * (i : Int)) (by omega), Ya _ (by omega), show (56 - 8 * (i : Int)) = ((8 * (7 - i) : Nat) : Int) by omega, V3 _ (by omega), Q5v _ _ (by omega), Qku, Nat.pow_mul]
 congr 1
theorem Qjb (i : Nat) (hi : i < 8) : decide (0 ≤ (IntKind.wrap .u64 (IntKind.wrap .i64 (56 - (IntKind.wrap .i64 (8 * (i : Int))))))) = true := by
 rw [Ya (8 * (i : Int)) (by omega), Ya _ (by omega), Q7q, decide_eq_true_eq]; omega
theorem Qkg (h : Nat) : Wc h 8 = [UInt8.ofNat (h / 256 ^ 7 % 256), UInt8.ofNat (h / 256 ^ 6 % 256), UInt8.ofNat (h / 256 ^ 5 % 256), UInt8.ofNat (h / 256 ^ 4 % 256), UInt8.ofNat (h / 256 ^ 3 % 256), UInt8.ofNat (h / 256 ^ 2 % 256), UInt8.ofNat (h / 256 ^ 1 % 256), UInt8.ofNat (h / 256 ^ 0 % 256)] := by
 simp only [Q5r]
 rfl
theorem Qg7 (h i : Nat) (hi : i < 8) : (Wc h 8).take i ++ [UInt8.ofNat (h / 256 ^ (7 - i) % 256)] = (Wc h 8).take (i + 1) := by
 rw [Qkg]
 have : i = 0 ∨ i = 1 ∨ i = 2 ∨ i = 3 ∨ i = 4 ∨ i = 5 ∨ i = 6 ∨ i = 7 := by omega
 rcases this with rfl | rfl | rfl | rfl | rfl | rfl | rfl | rfl <;> rfl
theorem Q77 (h : Nat) (hh : h < 18446744073709551616) : Xp ((Wc h 8).take 4) = h / 4294967296 := by
 rw [Qkg]
 simp only [Xp, List.take, List.foldl, UInt8.toNat_ofNat', Nat.reducePow]
 omega
theorem Ql9 (h : Nat) : ((Wc h 8).getD 4 0).toNat = h / 16777216 % 256 := by
 rw [Qkg]; simp [List.getD]
theorem Ql4 (h : Nat) : ((Wc h 8).getD 5 0).toNat = h / 65536 % 256 := by
 rw [Qkg]; simp [List.getD]
theorem Qlh (h : Nat) : U7 .u64 (h : Int) 32 = ((h / 2 ^ 32 : Nat) : Int) := Q5v h 32 (by omega)
theorem Qlw (h : Nat) : U7 .u64 (h : Int) 24 = ((h / 2 ^ 24 : Nat) : Int) := Q5v h 24 (by omega)
theorem Qmw (h : Nat) : U7 .u64 (h : Int) 16 = ((h / 2 ^ 16 : Nat) : Int) := Q5v h 16 (by omega)
theorem Qgp (n : Nat) (hn : n < 18446744073709551616) : Q4q .u64 (n : Int) 255 = ((n % 256 : Nat) : Int) := by
 have := Q2q n 255 hn (by omega)
 rw [show ((255 : Nat) : Int) = 255 from rfl] at this
 rw [this, show (255 : Nat) = 2 ^ 8 - 1 from rfl, Nat.and_two_pow_sub_one_eq_mod]
theorem Qcd {s : List UInt8} {l : Qc} (h0 : (Y2 s l).2 = 0) (h8 : s.length = 8) (hn : Xp (s.take 4) = 8) : ∃ f, Z6 s l = (f, 8, 0) := by
 obtain ⟨q1, q2, q3, q4, q5, q6, q7, q8⟩ := J5 h0
 unfold Z6
 rw [if_neg (show ¬ ((Y2 s l).2 ≠ 0) from fun k => k h0), if_neg (by omega), hn]
 have hb : Q8t s 8 = [] := by
  unfold Q8t
  rw [List.drop_eq_nil_of_le (by rw [List.length_take]; omega)]
 unfold Q3o
 rw [hb]
 exact ⟨_, rfl⟩
theorem Qhb {N : Nat} (hN : N = 800000000) {h : Nat} (hh : h < 18446744073709551616) {more : List UInt8} (hm : more.length ≤ 200) {l : Qc} (hr : X8 l = true) {x : Qfb} (hx : Qdw x l (Qo l ((Wc h 8).take 7)).2.1 (Qo l ((Wc h 8).take 7)).2.2.1 (Qo l ((Wc h 8).take 7)).2.2.2) (hD : Qo l ((Wc h 8).take 7) = ([], (Wc h 8).take 7, 0, 0)) :
  Qf N (h : Int) more (Wc h 8) x.l.MaxPacket x.l.MaxDepth x.from' x.at' x.need x.e x.next x.kept x.out (Y2 (Wc h 8) l).2 = some true := by
 have hlen : (Wc h 8).length = 8 := Vi _ _
 simp only [Qf, Qw, Vw, Vb, Ub]
 rw [if_pos (by simp [hlen])]
 obtain ⟨fs, x', h1, h2, h3, _⟩ := Q8q hN hr hx ((Wc h 8).drop 7) (by rw [List.length_take, List.length_drop]; omega)
 rw [List.take_append_drop] at h1 h2 h3
 rw [List.take_length, show Qi N ⟨⟨x.l.MaxPacket, x.l.MaxDepth⟩, x.kept, x.from', x.at', x.need, x.e, x.next, x.out⟩ ((Wc h 8).drop 7) = _ from h1]
 simp only [Option.bind_some]
 rw [hD] at h3
 simp only [List.nil_append] at h3
 subst h3
 by_cases h0 : (Y2 (Wc h 8) l).2 = 0
 ·rw [if_neg (show ¬ ((Y2 (Wc h 8) l).2 ≠ 0) from fun k => k h0), Qlh h]
  by_cases hs : Xp ((Wc h 8).take 4) = 8
  ·obtain ⟨f, hf⟩ := Qcd h0 hlen hs
   have hz : (Z6 (Wc h 8) l).2.2 = 0 := by rw [hf]
   rw [Jo hz, hf]
   have hnil : (Wc h 8).drop (Int.toNat 8) = [] := List.drop_eq_nil_of_le (by rw [hlen]; decide)
   simp only [hnil, Q8p l hr]
   rw [Q77 h hh] at hs
   rw [show (h / 2 ^ 32 : Nat) = h / 4294967296 from rfl, hs]
   simp [Qe]
  ·have h3 : (Z6 (Wc h 8) l).2.2 = 3 := by
    obtain ⟨q1, q2, q3, q4, q5, q6, q7, q8⟩ := J5 h0
    exact (W0 hr).2 (.inr ⟨h0, by omega⟩)
   rw [Xb h3]
   rw [Q77 h hh] at hs
   simp only [List.length_nil, if_true]
   have e1 : Qe .eql ((0 : Nat) : Int) 1 = false := by decide
   have e2 : Qe .eql ((h / 2 ^ 32 : Nat) : Int) 8 = false := by
    have : ¬ (Qe .eql ((h / 2 ^ 32 : Nat) : Int) 8 = true) := by rw [Vw, show (h / 2 ^ 32 : Nat) = h / 4294967296 from rfl]; omega
    exact Bool.eq_false_iff.2 this
   rw [e1, e2]
   simp [Qe]
 ·have hre : Z6 (Wc h 8) l = (Q97, 0, (Y2 (Wc h 8) l).2) := by unfold Z6; rw [if_pos h0]
  have h3 : (Y2 (Wc h 8) l).2 ≠ 3 := Q3c (by omega)
  have hb : Qo l (Wc h 8) = ([], [], 0, (Y2 (Wc h 8) l).2) := by rw [Vo (by rw [hre]; exact h3) (by rw [hre]; exact h0), hre]
  rw [hb] at h2 ⊢
  rw [if_pos h0, Qb2 h2 h0]
  simp only [Option.bind_some, List.length_nil]
  rw [Qf8 h2]
  simp only [Option.bind_some, List.length_nil]
  rw [Qk8 h2]
  simp [Qe]
theorem Qhh {N : Nat} (hN : N = 800000000) {h : Nat} (hh : h < 18446744073709551616) {more : List UInt8} (hm : more.length ≤ 200) {l : Qc} (hr : X8 l = true) {x : Qfb} (hx : Qdw x l (Qo l ((Wc h 8).take 7)).2.1 (Qo l ((Wc h 8).take 7)).2.2.1 (Qo l ((Wc h 8).take 7)).2.2.2) (hD : Qo l ((Wc h 8).take 7) = ([], (Wc h 8).take 7, 0, 0)) :
  Ql N (h : Int) more l (Wc h 8) false x.l.MaxPacket x.l.MaxDepth x.from' x.at' x.need x.e x.next x.kept x.out = some true := by
 obtain ⟨r1, r2, r3, r4⟩ := Q6d hr
 have hlen : (Wc h 8).length = 8 := Vi _ _
 have key := Qhb hN hh hm hr hx hD
 simp only [Ql, Z2, Qw, Q1m, J4]
 have hd : ((h / 4294967296 : Nat) : Int) = ((h / 2 ^ 32 : Nat) : Int) := rfl
 rw [if_neg (by simp), Qlh h, Qlw h, Qmw h, Qgp _ (by omega), Qgp _ (by omega), Q7q l.MaxPacket, Int.emod_eq_of_lt (by omega) (by omega), Q7q, Int.emod_eq_of_lt (by omega) (by omega)]
 simp only [if_true]
 unfold Y2 at key
 rw [if_neg (by simp [hr]), if_neg (by omega), Q77 h hh, Ql9, Ql4] at key
 simp only [show (2 : Nat) ^ 32 = 4294967296 from rfl, show (2 : Nat) ^ 24 = 16777216 from rfl, show (2 : Nat) ^ 16 = 65536 from rfl]
 by_cases c1 : l.MaxPacket < ((h / 4294967296 : Nat) : Int)
 ·rw [if_pos c1] at key
  rw [if_pos (show ((h / 4294967296 : Nat) : Int) > l.MaxPacket from c1)]
  exact key
 ·rw [if_neg c1] at key
  rw [if_neg (show ¬ ((h / 4294967296 : Nat) : Int) > l.MaxPacket from c1)]
  by_cases c2 : h / 4294967296 < 8
  ·rw [if_pos (.inl c2)] at key
   rw [if_pos (by omega)]; exact key
  ·rw [if_neg (by omega)]
   by_cases c3 : h / 16777216 % 256 < 2
   ·rw [if_pos (.inr (.inl c3))] at key
    rw [if_pos (by omega)]; exact key
   ·rw [if_neg (by omega)]
    by_cases c4 : h / 4294967296 < 4 * (h / 16777216 % 256)
    ·rw [if_pos (.inr (.inr c4))] at key
     rw [if_pos (by omega)]; exact key
    ·rw [if_neg (by omega)] at key
     rw [if_neg (by omega)]
     by_cases c5 : 1 < h / 65536 % 256
     ·rw [if_pos c5] at key
      rw [if_pos (by omega)]; exact key
     ·rw [if_neg c5] at key
      rw [if_neg (by omega)]; exact key
theorem Qf3 {N : Nat} (hN : N = 800000000) {h : Nat} (hh : h < 18446744073709551616) {more : List UInt8} (hm : more.length ≤ 200) {l : Qc} (hr : X8 l = true) : ∀ (n i : Nat), i ≤ 8 → 8 - i < n → Z1 N (h : Int) more l n ((Wc h 8).take i) (i : Int) = some true
 | 0, i, _, h => by omega
 | n + 1, i, hi, hn => by
  have hlen : (Wc h 8).length = 8 := Vi _ _
  simp only [Z1, Qw, J4, Vb, Ub]
  by_cases h8 : i < 8
  ·rw [if_pos (by omega), if_pos (Qjb i h8), if_pos (by rw [Nat.ble_eq, List.length_take]; simp only [List.length_cons, List.length_nil]; omega), Qhf h i h8, Qg7 h i h8, Ya _ (by omega), show ((i : Int) + 1) = ((i + 1 : Nat) : Int) by push_cast; rfl]
   exact Qf3 hN hh hm hr n (i + 1) (by omega) (by omega)
  ·have h8' : i = 8 := by omega
   subst h8'
   rw [if_neg (by decide), show (Wc h 8).take 8 = Wc h 8 from List.take_of_length_le (by omega), if_pos (by simp [hlen]), List.drop_zero]
   obtain ⟨fs, x', h1, h2, h3, _⟩ := Q8q hN hr (Qjz l hr) ((Wc h 8).take 7) (by rw [List.length_take]; simp only [List.length_nil]; omega)
   rw [List.nil_append] at h1 h2 h3
   have hs : (Z6 ((Wc h 8).take 7) l).2.2 = 3 := (W0 hr).2 (.inl (by rw [List.length_take]; omega))
   have hD := Xb hs
   have key := Qhh hN hh hm hr h2 hD
   rw [hD] at h1 h2 h3
   rw [Q8p l hr] at h3
   simp only [List.nil_append] at h3
   subst h3
   rw [h1]
   simp only [Option.bind_some, List.length_nil]
   rw [if_neg (by simp), if_neg (by simp), Qf8 h2]
   simp only [Option.bind_some, List.length_take, hlen]
   rw [if_neg (by decide), Qk8 h2]
   simp only [Option.bind_some, show Qe .neq (0 : Int) 0 = false from rfl]
   exact key
theorem Qhd {N : Nat} (hN : N = 800000000) (hlv : Yc N = some true) (head : Int) (more : List UInt8) (l : Qc) (hh : 0 ≤ head ∧ head < 18446744073709551616) : Zm N head more l = some true := by
 obtain ⟨h, rfl⟩ := Int.eq_ofNat_of_zero_le hh.1
 simp only [Zm, hlv, Option.bind_some, Qw, Q1m, Vw, Vb]
 rw [if_neg (by simp)]
 by_cases h1 : more.length > 200
 ·rw [if_pos (by omega)]
 ·rw [if_neg (by omega), Qgc hN]
  by_cases hr : X8 l = true
  ·rw [if_pos hr]
   simp only [Option.bind_some]
   rw [if_neg (by decide)]
   exact Qf3 hN (by omega) (by omega) hr N 0 (by omega) (by omega)
  ·rw [if_neg hr]
   simp
theorem Q9v (head : Int) (more : List UInt8) (l : Qc) (hh : IntKind.u64.min ≤ head ∧ head ≤ IntKind.u64.max) (_ : OkL l) : Zm 800000000 head more l = some true := by
 have h1 : IntKind.u64.min = 0 := by decide
 have h2 : IntKind.u64.max = 18446744073709551615 := by decide
 exact Qhd rfl Qho head more l (by omega)
end
end Go.Av
