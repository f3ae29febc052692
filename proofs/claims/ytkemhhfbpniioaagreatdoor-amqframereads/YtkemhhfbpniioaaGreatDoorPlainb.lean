/- The law. Part of a proof of a given statement: for every input the law returns true and the arguments read as before; no condition beyond the given row. -/
import Derived.Test.YtkemhhfbpniioaaGreatDoorPlain
import Derived.Test.YtkemhhfbpniioaaGreatDoorLiftF5
namespace Go.Av
noncomputable section
open Go.Proofs
set_option maxRecDepth 100000
def Qph (k : Nat) : Bool := !(Xd k).2.2.2.2 || (if (Xd k).2.2.2.1 then decide (((Xd k).2.2.1 = 1 ∨ (Xd k).2.2.1 = 4) ∧ 22 ≤ (Xd k).2.1 ∧ (Xd k).2.1 ≤ 24) else decide ((Xd k).2.1 = 25 ∨ (Xd k).2.1 = 22))
theorem Qko : ((List.range 40).all Qph) = true := by decide +kernel
theorem Qfr {P : Int × Int × Int × Bool × Bool → Prop} {B : Nat → Bool} (hB : ((List.range 40).all B) = true) (hP : ∀ k, B k = true → P (Xd k)) {code : Int} (h : ofB code = true) : P (ofT code) := by
 have h1 : bsI code < 40 ∧ U6 (bsI code) = code := by simpa [ofB] using h
 have := List.all_eq_true.1 hB (bsI code) (by simpa using h1.1)
 have e : ofT code = Xd (bsI code) := by unfold ofT; rw [if_pos h]
 rw [e]; exact hP _ this
theorem Wu {code : Int} (h : ofB code = true) (hi : (ofS code).Items = true) : ((ofS code).Sized = true → ((ofS code).Width = 1 ∨ (ofS code).Width = 4) ∧ 22 ≤ (ofS code).Kind ∧ (ofS code).Kind ≤ 24) ∧ ((ofS code).Sized = false → (ofS code).Kind = 25 ∨ (ofS code).Kind = 22) :=
 Qfr (P := fun t => t.2.2.2.2 = true → (t.2.2.2.1 = true → (t.2.2.1 = 1 ∨ t.2.2.1 = 4) ∧ 22 ≤ t.2.1 ∧ t.2.1 ≤ 24) ∧ (t.2.2.2.1 = false → t.2.1 = 25 ∨ t.2.1 = 22)) Qko (fun k hk h1 => by
  simp only [Qph, h1, Bool.not_true, Bool.false_or] at hk
  refine ⟨fun h2 => ?_, fun h2 => ?_⟩
  ·rw [h2] at hk; simpa using hk
  ·rw [h2] at hk; simpa using hk) h hi
theorem Qm7 {R : List UInt8 → Int → Option Rd} {N : Nat} {most : Int} {rd : List UInt8 → Rd} {text : List UInt8} (hm : 1 ≤ most ∧ most ≤ 32) (ht : text.length ≤ 600000) (hN : 100 < N) (hR : ∀ s, s.length ≤ text.length → R s (most - 1) = some (rd s)) (hg : Qn8 rd) :
  ∀ (n i at' : Nat) (l : List Q0), i ≤ 2 → 2 - i < n → at' ≤ text.length → l.length = i →
  Zr R N most n (i : Int) text (at' : Int) 0 l = some (if (X3 rd (2 - i) (text.drop at') l).2 ≠ 0 then (Gg, 0, (X3 rd (2 - i) (text.drop at') l).2) else (⟨25, 0, [], (X3 rd (2 - i) (text.drop at') l).1.1⟩, ((text.length - (X3 rd (2 - i) (text.drop at') l).1.2.length : Nat) : Int), 0))
 | 0, i, at', l, _, h, _, _ => by omega
 | n + 1, i, at', l, hi, hn, ha, hl => by
  simp only [Zr, Qa, Vg, Va, Uk, Qck N text at' 0 ha, Option.bind_some, Qu (most - 1) (show _ by omega), hR (text.drop at') (by rw [List.length_drop]; omega)]
  by_cases hic : i < 2
  ·rw [if_pos (by omega)]
   obtain ⟨k, hk⟩ : ∃ k, 2 - i = k + 1 := ⟨2 - i - 1, by omega⟩
   rw [hk, X3]
   have hgd := hg (text.drop at') (by rw [List.length_drop]; omega)
   generalize hr : rd (text.drop at') = r at hgd ⊢
   obtain ⟨x, m, e⟩ := r
   simp only [] at hgd ⊢
   by_cases he : e = 0
   ·subst he
    obtain ⟨g1, g2, g3⟩ := hgd rfl
    rw [List.length_drop] at g2
    obtain ⟨mm, rfl⟩ := Int.eq_ofNat_of_zero_le g1
    rw [if_pos rfl, Q1u N text at' mm (by unfold Q7z; omega) ha (by omega), if_pos (by omega)]
    simp only [Option.bind_some]
    rw [if_neg (by simp), if_pos (by simp [Nat.ble_eq]; omega), Qu _ (by omega), if_neg (show ¬ ((0 : Int) ≠ 0) by simp)]
    have ih := Qm7 hm ht hN hR hg n (i + 1) (at' + mm) (l ++ [x]) (by omega) (by omega) (by omega) (by simp [hl])
    rw [show ((i : Int) + 1) = ((i + 1 : Nat) : Int) by push_cast; rfl, ih, show 2 - (i + 1) = k by omega, Q55 ha]
    simp only [Int.toNat_natCast]
   ·rw [if_neg he, if_pos (show e ≠ 0 from he), if_pos (show e ≠ 0 from he)]
    simp only []
    rw [if_pos (show e ≠ 0 from he)]; rfl
  ·rw [if_neg (by omega), show 2 - i = 0 by omega, X3]
   simp only [Qi, Option.bind_some]
   rw [if_neg (show ¬ ((0 : Int) ≠ 0) by simp), List.length_drop]
   congr 3
   omega
theorem Q7v {rd : List UInt8 → Rd} {lo : Nat} (hg : Qn8 rd) (hlo : ∀ s, s.length ≤ 600000 → (rd s).2.2 = 0 → (lo : Int) ≤ (rd s).2.1 ∧ (rd s).1.sz + 1000 * lo ≤ 1 + 1000 * (rd s).2.1.toNat) : ∀ (c : Nat) (s : List UInt8) (acc : List Q0), s.length ≤ 600000 → (X3 rd c s acc).2 = 0 →
  ∃ k, k ≤ s.length ∧ (X3 rd c s acc).1.2 = s.drop k ∧ Q0.szs (X3 rd c s acc).1.1 + 1000 * (lo * c) ≤ Q0.szs acc + c + 1000 * k ∧ (X3 rd c s acc).1.1.length = acc.length + c ∧ lo * c ≤ k
 | 0, s, acc, _, _ => ⟨0, by omega, by simp [X3], by simp [X3], by simp [X3], by simp⟩
 | c + 1, s, acc, hs, h => by
  rw [X3] at h ⊢
  split at h
  ·rename_i he; exact absurd h he
  ·rename_i he
   rw [if_neg he]
   obtain ⟨g0, g0'⟩ := hlo s hs (Classical.byContradiction he)
   obtain ⟨g1, g2, g3⟩ := hg s hs (Classical.byContradiction he)
   obtain ⟨k, k1, k2, k3, k4, k5⟩ := Q7v hg hlo c (s.drop (rd s).2.1.toNat) (acc ++ [(rd s).1]) (by rw [List.length_drop]; omega) h
   rw [List.length_drop] at k1
   refine ⟨(rd s).2.1.toNat + k, by omega, by rw [k2, List.drop_drop], ?_, by rw [k4]; simp; omega, by rw [Nat.mul_succ]; omega⟩
   rw [Q0.szs_app] at k3
   rw [Nat.mul_succ]
   simp only [Q0.szs] at k3
   omega
theorem Q03 {data : Int → List UInt8 → Rd} (h : ∀ code, Qn8 (data code)) : Qn8 (Qt data) ∧ ∀ s, s.length ≤ 600000 → (Qt data s).2.2 = 0 → ((1 : Nat) : Int) ≤ (Qt data s).2.1 ∧ (Qt data s).1.sz + 1000 * 1 ≤ 1 + 1000 * (Qt data s).2.1.toNat := by
 have key : ∀ s, s.length ≤ 600000 → (Qt data s).2.2 = 0 → 1 ≤ (Qt data s).2.1 ∧ (Qt data s).2.1 ≤ s.length ∧ (Qt data s).1.sz + 1000 * 1 ≤ 1 + 1000 * (Qt data s).2.1.toNat := by
  intro s hs he
  cases s with
  | nil => simp [Qt] at he
  | cons b t =>
   simp only [Qt] at he ⊢
   split at he
   ·rename_i h1; exact absurd he h1
   ·rename_i h1
    rw [if_neg h1]
    simp only [List.length_cons] at hs ⊢
    obtain ⟨g1, g2, g3⟩ := h b.toNat t (by omega) (Classical.byContradiction h1)
    refine ⟨by omega, by push_cast; omega, ?_⟩
    have : ((data (b.toNat : Int) t).2.1 + 1).toNat = (data (b.toNat : Int) t).2.1.toNat + 1 := by omega
    rw [this]; omega
 exact ⟨fun s hs he => by obtain ⟨a, b, c⟩ := key s hs he; exact ⟨by omega, b, by omega⟩, fun s hs he => ⟨(key s hs he).1, (key s hs he).2.2⟩⟩
theorem Qfz {k num : Int} {q : (List Q0 × List UInt8) × Int} {tot : Nat} (h : (Qaj k num q tot).2.2 = 0) : q.2 = 0 ∧ q.1.2 = [] ∧ Q2v ⟨k, num, [], q.1.1⟩ = 0 ∧ Qaj k num q tot = (⟨k, num, [], q.1.1⟩, (tot : Int), 0) := by
 unfold Qaj at h ⊢
 split at h
 ·simp only [] at h
  split at h
  ·cases h
  ·rename_i h1 _; exact absurd h h1
 split at h
 ·cases h
 split at h
 ·rename_i h3; exact absurd h h3
 ·rename_i h1 h2 h3
  rw [if_neg h1, if_neg h2, if_neg h3]
  exact ⟨Classical.byContradiction h1, Classical.byContradiction h2, Classical.byContradiction h3, rfl⟩
theorem Qh3 {data : Int → List UInt8 → Rd} {c : X5} {s : List UInt8} (h : (Q2a data c s).2.2 = 0) : ∃ (body : List UInt8) (num : Int) (q : (List Q0 × List UInt8) × Int) (cnt : Nat) (rest : List UInt8), s.length ≥ c.Width.toNat + Vj (s.take c.Width.toNat) ∧ body = (s.drop c.Width.toNat).take (Vj (s.take c.Width.toNat)) ∧ c.Width.toNat ≤ body.length ∧ cnt ≤ 1000 ∧
  ((c.Kind ≠ 24 ∧ num = 0 ∧ rest = body.drop c.Width.toNat ∧ q = X3 (Qt data) cnt rest []) ∨ (c.Kind = 24 ∧ ∃ b : UInt8, body.drop c.Width.toNat = b :: rest ∧ ofB (b.toNat : Int) = true ∧ b.toNat ≠ 0 ∧ num = (ofS (b.toNat : Int)).Kind ∧ q = X3 (data (b.toNat : Int)) cnt rest [])) ∧
  (c.Kind = 23 → cnt % 2 = 0) ∧ (Qaj c.Kind num q (c.Width.toNat + Vj (s.take c.Width.toNat))).2.2 = 0 ∧ Q2a data c s = Qaj c.Kind num q (c.Width.toNat + Vj (s.take c.Width.toNat)) := by
 unfold Q2a at h ⊢
 split at h
 ·cases h
 rename_i h1; rw [if_neg h1]
 split at h
 ·cases h
 rename_i h2; rw [if_neg h2]
 unfold Qms at h ⊢
 split at h
 ·cases h
 rename_i h3; rw [if_neg h3]
 split at h
 ·cases h
 rename_i h4; rw [if_neg h4]
 split at h
 ·cases h
 rename_i h5; rw [if_neg h5]
 split at h
 ·rename_i h6; rw [if_pos h6]
  cases hb : ((s.drop c.Width.toNat).take (Vj (s.take c.Width.toNat))).drop c.Width.toNat with
  | nil => rw [hb] at h; cases h
  | cons b rest =>
   rw [hb] at h
   simp only [Qs2] at h ⊢
   split at h
   ·cases h
   rename_i h7; rw [if_neg h7]
   refine ⟨_, _, _, _, rest, by omega, rfl, by omega, by omega, .inr ⟨h6, b, hb, ?_, ?_, rfl, rfl⟩, fun hk => by omega, h, rfl⟩
   ·cases ho : ofB (b.toNat : Int) with
    | true => rfl
    | false => exact absurd (.inl ho) h7
   ·exact fun ho => h7 (.inr ho)
 ·rename_i h6; rw [if_neg h6]
  exact ⟨_, _, _, _, _, by omega, rfl, by omega, by omega, .inl ⟨h6, rfl, rfl, rfl⟩, fun hk => by
   apply Classical.byContradiction
   intro hn; exact h5 ⟨hk, hn⟩, h, rfl⟩
theorem ar1 {z lo c k r : Nat} (h : z + 1000 * (lo * c) ≤ 0 + c + 1000 * k) (hk : k ≤ r) (hc : c ≤ 1000) : z ≤ 1000 + 1000 * r := by omega
theorem Qf7 {code : Int} {s : List UInt8} (hs : s.length ≤ 600000) (h : (Q7l code s).2.2 = 0) : 0 ≤ (Q7l code s).2.1 ∧ (Q7l code s).2.1 ≤ s.length ∧ (Q7l code s).1.sz ≤ 1 + 1000 * (Q7l code s).2.1.toNat := by
 generalize hg : Q7l code s = g at h ⊢
 obtain ⟨x, n, e⟩ := g
 simp only at h
 subst h
 obtain ⟨h1, h2, h3, h4, h5, h6, h7⟩ := reads (by unfold Q7z; omega) hg
 refine ⟨h1, h2, ?_⟩
 rw [Q0.sz_eq, (Vd h5).2.2.2.1]
 simp only [Q0.szs]; omega
theorem J8 : ∀ (m : Nat) (code : Int), Qn8 (Y8 m code) := by
 intro m
 induction m with
 | zero =>
  intro code s hs h
  rw [Y8] at h ⊢
  split at h
  ·cases h
  rename_i h1; rw [if_neg h1]
  split at h
  ·rename_i h2; rw [if_pos h2]; exact Qf7 hs h
  ·cases h
 | succ m ih =>
  intro code s hs h
  obtain ⟨hrd, hr1⟩ := Q03 ih
  rw [Y8] at h ⊢
  split at h
  ·cases h
  rename_i h1; rw [if_neg h1]
  split at h
  ·rename_i h2; rw [if_pos h2]; exact Qf7 hs h
  rename_i h2; rw [if_neg h2]
  split at h
  ·rename_i h3; rw [if_pos h3]
   unfold Qev at h ⊢
   split at h
   ·rename_i h4; exact absurd h h4
   ·rename_i h4
    rw [if_neg h4]
    obtain ⟨k, k1, k2, k3, k4, k5⟩ := Q7v hrd hr1 2 s [] hs (Classical.byContradiction h4)
    simp only [k2, List.length_drop]
    refine ⟨by omega, by omega, ?_⟩
    rw [Q0.sz_eq]
    simp only [Q0.szs] at k3 ⊢
    omega
  rename_i h3; rw [if_neg h3]
  split at h
  ·rename_i h4; rw [if_pos h4]; simp only []; exact ⟨by omega, by omega, by rw [Q0.sz_eq]; simp [Q0.szs]⟩
  ·rename_i h4; rw [if_neg h4]
   obtain ⟨body, num, q, cnt, rest, p1, p2, p3, p4, p5, p6, p7, p8⟩ := Qh3 h
   obtain ⟨f1, f2, f3, f4⟩ := Qfz p7
   rw [p8, f4]
   simp only []
   have hbl : body.length ≤ Vj (s.take (ofS code).Width.toNat) := by rw [p2, List.length_take]; omega
   have hq : Q0.szs q.1.1 ≤ 1000 + 1000 * rest.length ∧ rest.length ≤ body.length := by
    rcases p5 with ⟨_, _, e1, e2⟩ | ⟨_, b, e0, _, _, _, e2⟩
    ·have hrl : rest.length ≤ body.length := by rw [e1, List.length_drop]; omega
     have hbl2 : body.length ≤ s.length := by rw [p2, List.length_take, List.length_drop]; omega
     rw [e2] at f1 ⊢
     obtain ⟨k, k1, k2, k3, k4, k5⟩ := Q7v hrd hr1 cnt rest [] (by omega) f1
     simp only [Q0.szs] at k3
     exact ⟨ar1 k3 k1 p4, hrl⟩
    ·have hrl : rest.length ≤ body.length := by
      have := congrArg List.length e0
      rw [List.length_drop, List.length_cons] at this; omega
     have hbl2 : body.length ≤ s.length := by rw [p2, List.length_take, List.length_drop]; omega
     rw [e2] at f1 ⊢
     obtain ⟨k, k1, k2, k3, k4, k5⟩ := Q7v (lo := 0) (ih _) (fun s hs he => ⟨(ih _ s hs he).1, by have := (ih _ s hs he).2.2; omega⟩) cnt rest [] (by omega) f1
     simp only [Q0.szs] at k3
     exact ⟨ar1 k3 k1 p4, hrl⟩
   clear p5
   refine ⟨by omega, by omega, ?_⟩
   have hob : ofB code = true := by
    cases ho : ofB code with
    | true => rfl
    | false => exact absurd ho h1
   have hit : (ofS code).Items = true := by
    cases ho : (ofS code).Items with
    | true => rfl
    | false => exact absurd ho h2
   have hsz : (ofS code).Sized = true := by
    cases ho : (ofS code).Sized with
    | true => rfl
    | false => exact absurd ho h4
   have hw := ((Wu hob hit).1 hsz).1
   rw [Q0.sz_eq]
   simp only [Int.toNat_natCast]
   omega
end
end Go.Av
namespace Go.Av
noncomputable section
open Go.Proofs
set_option maxRecDepth 100000
theorem Qre (N : Nat) (s : List UInt8) (i : Nat) (b : UInt8) (t : List UInt8) (h : s.drop i = b :: t) (hs : Q7z s) (hN : 10 < N) : Qm N ⟨s, i, 0⟩ 1 = some ((b.toNat : Int), ⟨s, ((i + 1 : Nat) : Int), 0⟩) := by
 have hl : i < s.length := by
  apply Classical.byContradiction
  intro hn
  rw [List.drop_of_length_le (by omega)] at h; cases h
 simp only [Qm]
 have := Q1u N s i 1 hs (by omega) (by omega)
 rw [show ((1 : Nat) : Int) = 1 from rfl] at this
 rw [this, if_pos (by omega), h]
 simp only [Option.bind_some, List.take_succ_cons, List.take_zero]
 rw [Q8s N [b] (by simp) hN]
 simp [Vj]
theorem Qts (n : Nat) : ((n : Int).tmod 2 ≠ 0) = (n % 2 ≠ 0) := by
 apply propext
 rw [Int.tmod_eq_emod_of_nonneg (by omega)]
 omega
theorem Qmd (m : Nat) (h : m ≤ 32) : Q7d (m : Int) = true := decide_eq_true (by omega)
theorem Qsm {R1 : List UInt8 → Int → Option Rd} {R2 : Int → List UInt8 → Int → Option Rd} {R3 : List UInt8 → Int → Option Rd} {R4 : X5 → List UInt8 → Int → Option Rd} {N m : Nat} {c : X5} {s : List UInt8} {data : Int → List UInt8 → Rd}
  (hN : 700000000 < N) (hm : m + 1 ≤ 32) (hs : s.length ≤ 600000) (hw : c.Width = 1 ∨ c.Width = 4) (hg : ∀ code, Qn8 (data code))
  (h1 : ∀ t, t.length ≤ 600000 → R1 t (((m + 1 : Nat) : Int) - 1) = some (Qt data t)) (h2 : ∀ code t, t.length ≤ 600000 → R2 code t (((m + 1 : Nat) : Int) - 1) = some (data code t)) :
  Wy R1 R2 R3 R4 N c s ((m + 1 : Nat) : Int) = some (Q2a data c s) := by
 obtain ⟨w, hw'⟩ : ∃ w : Nat, c.Width = w ∧ (w = 1 ∨ w = 4) := by
  rcases hw with h | h
  ·exact ⟨1, h, .inl rfl⟩
  ·exact ⟨4, h, .inr rfl⟩
 obtain ⟨hw1, hw2⟩ := hw'
 have hgr := (Q03 hg).1
 have hsn : Q7z s := by unfold Q7z; omega
 simp only [Wy, hw1, Q60 N s w hsn (by omega) (by omega), Option.bind_some, Qe, Qa, Uk, Q3q, Va]
 unfold Q2a
 rw [hw1, Int.toNat_natCast]
 by_cases hl : w ≤ s.length
 ·rw [if_pos hl]
  dsimp only
  rw [if_neg (show ¬ s.length < w by omega), if_neg (show ¬ ((0 : Int) ≠ 0) by simp), Q47 N s w 0 hl]
  simp only [Option.bind_some]
  have hlt := Q27 (s.take w)
  have h4 : 256 ^ (s.take w).length ≤ 256 ^ 4 := Nat.pow_le_pow_right (by omega) (by rw [List.length_take]; omega)
  have h5 : (256 : Nat) ^ 4 = 4294967296 := rfl
  generalize hn : Vj (s.take w) = n at *
  rw [Qbk _ (by omega)]
  by_cases h6 : s.length - w < n
  ·rw [if_pos (by omega), if_pos h6]; rfl
  rw [if_neg (by omega), if_neg h6, Qu _ (by omega), Q1u N s w n hsn hl (by omega), if_pos (by omega)]
  simp only [Option.bind_some]
  have hbl : ((s.drop w).take n).length = n := by rw [List.length_take, List.length_drop]; omega
  generalize hbody : (s.drop w).take n = body at *
  have hbn : Q7z body := by unfold Q7z; omega
  unfold Qms
  rw [Q60 N body w hbn (by omega) (by omega)]
  simp only [Option.bind_some]
  by_cases h7 : w ≤ body.length
  ·rw [if_pos h7]
   dsimp only
   rw [if_neg (show ¬ body.length < w by omega), if_neg (show ¬ ((0 : Int) ≠ 0) by simp)]
   have hlt2 := Q27 (body.take w)
   generalize hcnt : Vj (body.take w) = cnt at *
   by_cases h8 : 1000 < cnt
   ·rw [if_pos (show (cnt : Int) > 1000 by omega), if_pos h8]; rfl
   rw [if_neg (show ¬ (cnt : Int) > 1000 by omega), if_neg h8]
   simp only [Qts]
   have hm' : (1 : Int) ≤ ((m + 1 : Nat) : Int) ∧ ((m + 1 : Nat) : Int) ≤ 32 := by omega
   have arr : ∀ (L : (Int × Q3) → (X5 × Bool) → Option Rd), (∀ (b : UInt8) (t : List UInt8), body.drop w = b :: t → ofB (b.toNat : Int) = true → L ((b.toNat : Int), ⟨body, ((w + 1 : Nat) : Int), 0⟩) (ofS (b.toNat : Int), ofB (b.toNat : Int)) = some (Qaj c.Kind (ofS (b.toNat : Int)).Kind (X3 (data (b.toNat : Int)) cnt t []) (w + n))) →
     ((Qr N ⟨body, (w : Int), 0⟩).bind fun v20 => if v20.1 = 0 then some ((⟨0, 0, [], []⟩ : Q0), (0 : Int), (5 : Int)) else (Qm N v20.2 1).bind fun v23 => (Qy N (IntKind.i64.wrap v23.1)).bind fun v25 =>
      if (!v25.2) = true then some ((⟨0, 0, [], []⟩ : Q0), (0 : Int), (8 : Int)) else if IntKind.i64.wrap v23.1 = 0 then some ((⟨0, 0, [], []⟩ : Q0), (0 : Int), (8 : Int)) else L v23 v25) = some (Qs2 data cnt (w + n) c.Kind (body.drop w)) := by
    intro L hL
    rw [Q47 N body w 0 h7]
    simp only [Option.bind_some]
    cases hd : body.drop w with
    | nil =>
     have : body.length - w = 0 := by
      have := congrArg List.length hd
      rw [List.length_drop] at this; simpa using this
     rw [if_pos (by omega)]; rfl
    | cons b t =>
     have : body.length - w ≠ 0 := by
      have := congrArg List.length hd
      rw [List.length_drop, List.length_cons] at this; omega
     rw [if_neg (by omega), Qre N body w b t hd hbn (by omega)]
     simp only [Option.bind_some, Qy, Qra, Qs2]
     cases ho : ofB (b.toNat : Int) with
     | false => rw [if_pos (by rfl), if_pos (.inl rfl)]; rfl
     | true =>
      rw [if_neg (by simp)]
      by_cases hb0 : b.toNat = 0
      ·rw [if_pos (by omega), if_pos (.inr hb0)]; rfl
      ·rw [if_neg (by omega), if_neg (by simp [hb0])]
       have := hL b t hd ho
       rw [ho] at this; exact this
   have hR1 : ∀ t : List UInt8, t.length ≤ body.length → R1 t (((m + 1 : Nat) : Int) - 1) = some (Qt data t) := fun t ht => h1 t (by omega)
   have szb : Q0.szs ([] : List Q0) ≤ 0 + 1000 * w := by simp [Q0.szs]
   have szb1 : Q0.szs ([] : List Q0) ≤ 0 + 1000 * (w + 1) := by simp [Q0.szs]
   have kb : ∀ code : Int, ofB code = true → 0 ≤ (ofS code).Kind ∧ (ofS code).Kind ≤ 25 := fun code ho => by have := (Q6i code ho).kind; omega
   have dl : ∀ (b : UInt8) (t : List UInt8), body.drop w = b :: t → body.drop (w + 1) = t ∧ w + 1 ≤ body.length := fun b t hd => by
    refine ⟨by rw [← List.drop_drop, hd]; rfl, ?_⟩
    have := congrArg List.length hd
    rw [List.length_drop, List.length_cons] at this; omega
   by_cases h23 : c.Kind = 23
   ·rw [if_pos h23]
    by_cases h9 : cnt % 2 ≠ 0
    ·rw [if_pos h9, if_pos ⟨h23, h9⟩]; rfl
    ·rw [if_neg h9, if_neg (show ¬ (c.Kind = 23 ∧ cnt % 2 ≠ 0) from fun h => h9 h.2), if_neg (by omega), if_neg (show ¬ c.Kind = 24 by omega)]
     have := Q9e (R := R1) (N := N) (c := c) (v9 := (body, ⟨s, ((w + n : Nat) : Int), 0⟩)) (v11 := ((cnt : Int), ⟨body, (w : Int), 0⟩)) (rd := Qt data) (text := body) (cnt := cnt) (tot := w + n) hm' (by omega) (by omega) rfl rfl hN hR1 hgr N 0 w [] (by omega) (by omega) h7 rfl szb
     rw [Nat.sub_zero] at this
     exact this
   ·rw [if_neg h23, if_neg (show ¬ (c.Kind = 23 ∧ cnt % 2 ≠ 0) from fun h => h23 h.1)]
    by_cases h24 : c.Kind = 24
    ·rw [if_pos h24, if_pos h24]
     refine arr (fun v23 v25 => Zg R1 R2 N c ((m + 1 : Nat) : Int) (body, ⟨s, ((w + n : Nat) : Int), 0⟩) ((cnt : Int), ⟨body, (w : Int), 0⟩) v23 v25 N 0 v23.2.text v23.2.at' v23.2.err []) (fun b t hd ho => ?_)
     obtain ⟨d1, d2⟩ := dl b t hd
     have := Q9j (R := R1) (R2 := R2) (N := N) (c := c) (v9 := (body, ⟨s, ((w + n : Nat) : Int), 0⟩)) (v11 := ((cnt : Int), ⟨body, (w : Int), 0⟩)) (v23 := ((b.toNat : Int), ⟨body, ((w + 1 : Nat) : Int), 0⟩)) (v25 := (ofS (b.toNat : Int), ofB (b.toNat : Int))) (rd := data (b.toNat : Int)) (text := body) (cnt := cnt) (tot := w + n) (b := b) hm' (by omega) (by omega) rfl rfl rfl (kb _ ho) hN (fun t ht => h2 _ t (by omega)) (hg _) N 0 (w + 1) [] (by omega) (by omega) d2 rfl szb1
     rw [Nat.sub_zero, d1] at this
     exact this
    ·rw [if_neg h24, if_neg h24]
     have := Q9r (R := R1) (N := N) (c := c) (v9 := (body, ⟨s, ((w + n : Nat) : Int), 0⟩)) (v11 := ((cnt : Int), ⟨body, (w : Int), 0⟩)) (rd := Qt data) (text := body) (cnt := cnt) (tot := w + n) hm' (by omega) (by omega) rfl rfl hN hR1 hgr N 0 w [] (by omega) (by omega) h7 rfl szb
     rw [Nat.sub_zero] at this
     exact this
  ·rw [if_neg h7]
   dsimp only
   rw [if_pos (show body.length < w by omega), if_pos (show (3 : Int) ≠ 0 by decide)]; rfl
 ·rw [if_neg hl]
  dsimp only
  rw [if_pos (show s.length < w by omega), if_pos (show (3 : Int) ≠ 0 by decide)]; rfl
theorem Qt7 {m N : Nat} {s : List UInt8} (hm : m ≤ 32) (hs : s.length ≤ 600000) (h : ∀ code t, t.length ≤ s.length → Xx N code t (m : Int) = some (Y8 m code t)) : Yd (N + 1) s (m : Int) = some (Qt (Y8 m) s) := by
 show Uf (Yd N) (Xx N) (Wj N) (Vz N) N s (m : Int) = _
 simp only [Uf, Q7y, Qmd m hm, Option.bind_some, Qa, Bool.not_true, Bool.false_eq_true, if_false]
 cases s with
 | nil => rfl
 | cons b t =>
  rw [if_neg (by simp [Q7t]), show idx (b :: t) 0 = some b from rfl]
  simp only [Option.bind_some]
  rw [if_pos (by simp [Nat.ble_eq]), List.take_length, Qra]
  simp only [List.drop_succ_cons, List.drop_zero]
  rw [h _ t (by simp)]
  simp only [Option.bind_some, Uk, Qt]
  by_cases he : (Y8 m (b.toNat : Int) t).2.2 = 0
  ·rw [if_neg (by simp [he]), if_neg (by simp [he])]
   obtain ⟨g1, g2, g3⟩ := J8 m (b.toNat : Int) t (by simp at hs; omega) he
   rw [Qu _ (by simp at hs; omega)]
  ·rw [if_pos he, if_pos he]; rfl
theorem Qu5 : ∀ m : Nat, m ≤ 32 → ∀ N : Nat, 700000100 + 4 * m < N → ∀ (code : Int) (s : List UInt8), s.length ≤ 600000 → Xx N code s (m : Int) = some (Y8 m code s) := by
 intro m
 induction m with
 | zero =>
  intro hm N hN code s hs
  obtain ⟨N, rfl⟩ : ∃ K, N = K + 1 := ⟨N - 1, by omega⟩
  show Wq (Yd N) (Xx N) (Wj N) (Vz N) N code s ((0 : Nat) : Int) = _
  simp only [Wq, Q7y, Qmd 0 hm, Option.bind_some, Qa, Bool.not_true, Bool.false_eq_true, if_false, Qy, Va, Y8]
  cases h1 : ofB code with
  | false => rfl
  | true =>
   simp only [Bool.not_true, Bool.false_eq_true, if_false, Bool.true_eq_false]
   cases h2 : (ofS code).Items with
   | false =>
    simp only [Bool.not_false, if_true]
    rw [Qpv N code s (by unfold Q7z; omega) (by omega) (by omega)]; rfl
   | true => rfl
 | succ m ih =>
  intro hm N hN code s hs
  obtain ⟨N, rfl⟩ : ∃ K, N = K + 3 := ⟨N - 3, by omega⟩
  show Wq (Yd (N + 2)) (Xx (N + 2)) (Wj (N + 2)) (Vz (N + 2)) (N + 2) code s ((m + 1 : Nat) : Int) = _
  simp only [Wq, Q7y, Qmd (m + 1) hm, Option.bind_some, Qa, Bool.not_true, Bool.false_eq_true, if_false, Qy, Va, Y8]
  cases h1 : ofB code with
  | false => rfl
  | true =>
   simp only [Bool.not_true, Bool.false_eq_true, if_false, Bool.true_eq_false]
   cases h2 : (ofS code).Items with
   | false =>
    simp only [Bool.not_false, if_true]
    rw [Qpv (N + 2) code s (by unfold Q7z; omega) (by omega) (by omega)]; rfl
   | true =>
    simp only [Bool.not_true, Bool.false_eq_true, if_false, Bool.true_eq_false]
    rw [if_neg (show ¬ (((m + 1 : Nat) : Int) = 0) by omega)]
    have hR : ∀ t : List UInt8, t.length ≤ 600000 → Yd (N + 1) t (((m + 1 : Nat) : Int) - 1) = some (Qt (Y8 m) t) := fun t ht => by
     rw [show (((m + 1 : Nat) : Int) - 1) = (m : Int) by omega]
     exact Qt7 (by omega) ht (fun code u hu => ih (by omega) N (by omega) code u (by omega))
    have hD : ∀ (code : Int) (t : List UInt8), t.length ≤ 600000 → Xx (N + 1) code t (((m + 1 : Nat) : Int) - 1) = some (Y8 m code t) := fun code t ht => by
     rw [show (((m + 1 : Nat) : Int) - 1) = (m : Int) by omega]
     exact ih (by omega) (N + 1) (by omega) code t ht
    by_cases h3 : (ofS code).Kind = 25
    ·rw [if_pos h3, if_pos h3]
     show (Wf (Yd (N + 1)) (Xx (N + 1)) (Wj (N + 1)) (Vz (N + 1)) (N + 1) s ((m + 1 : Nat) : Int)).bind _ = _
     simp only [Wf]
     have := Qm7 (R := Yd (N + 1)) (N := N + 1) (most := ((m + 1 : Nat) : Int)) (rd := Qt (Y8 m)) (text := s) (by omega) (by omega) (by omega) (fun t ht => hR t (by omega)) (Q03 (J8 m)).1 (N + 1) 0 0 [] (by omega) (by omega) (by omega) rfl
     rw [show ((0 : Nat) : Int) = 0 from rfl] at this
     rw [this]; rfl
    ·rw [if_neg h3, if_neg h3]
     cases h4 : (ofS code).Sized with
     | false => rfl
     | true =>
      simp only [Bool.not_true, Bool.false_eq_true, if_false, Bool.true_eq_false]
      show (Wy (Yd (N + 1)) (Xx (N + 1)) (Wj (N + 1)) (Vz (N + 1)) (N + 1) (ofS code) s ((m + 1 : Nat) : Int)).bind _ = _
      rw [Qsm (m := m) (c := ofS code) (by omega) hm hs ((Wu h1 h2).1 h4).1 (J8 m) hR hD]; rfl
theorem Qsk (m N : Nat) (s : List UInt8) (hm : m ≤ 32) (hN : 700000200 + 4 * m < N) (hs : s.length ≤ 600000) : Yd N s (m : Int) = some (Qt (Y8 m) s) := by
 obtain ⟨N, rfl⟩ : ∃ K, N = K + 1 := ⟨N - 1, by omega⟩
 exact Qt7 hm hs (fun code t ht => Qu5 m hm N (by omega) code t (by omega))
end
end Go.Av
namespace Go.Av
noncomputable section
open Go.Proofs
set_option maxRecDepth 100000
theorem Qmn (n m k : Nat) : n &&& (m * 2 ^ k) = ((n / 2 ^ k) &&& m) * 2 ^ k := by
 apply Nat.eq_of_testBit_eq
 intro i
 rw [Nat.testBit_and, Nat.testBit_mul_two_pow, Nat.testBit_mul_two_pow, Nat.testBit_and, Nat.testBit_div_two_pow]
 by_cases h : k ≤ i
 ·simp [h]
 ·simp [h]
theorem Qrx (n k : Nat) (h : k ≤ 64) : Q1g .u64 (n : Int) (k : Int) = ((n / 2 ^ k : Nat) : Int) := by
 have e : min (k : Int).toNat IntKind.u64.bits = k := by simp [IntKind.bits]; omega
 simp only [Q1g, e]
 rw [Int.fdiv_eq_ediv_of_nonneg _ (by exact_mod_cast Nat.zero_le _)]
 push_cast; rfl
theorem Qv8 (n e k : Nat) (hn : n < 18446744073709551616) (hk : k ≤ 63) (he : (2 ^ e - 1) * 2 ^ k < 18446744073709551616) (he2 : 2 ^ e - 1 < 18446744073709551616) :
  (Q13 .u64 (Q1g .u64 (n : Int) (k : Int)) ((2 ^ e - 1 : Nat) : Int) = ((2 ^ e - 1 : Nat) : Int)) = (Q13 .u64 (n : Int) (((2 ^ e - 1) * 2 ^ k : Nat) : Int) = (((2 ^ e - 1) * 2 ^ k : Nat) : Int)) := by
 rw [Qrx n k (by omega), Q24 _ _ (Nat.lt_of_le_of_lt (Nat.div_le_self _ _) hn) he2, Q24 _ _ hn he, Qmn]
 apply propext
 have hp : 0 < 2 ^ k := Nat.two_pow_pos k
 constructor
 ·intro h
  have := Int.ofNat.inj h
  rw [this]
 ·intro h
  have := Nat.eq_of_mul_eq_mul_right hp (Int.ofNat.inj h)
  rw [this]
theorem Qtq (n : Nat) (hn : n < 18446744073709551616) : (Q13 .u64 (n : Int) 8388607 ≠ 0) = (Q0d .u64 (n : Int) 41 ≠ 0) := by
 have e : Q0d .u64 (n : Int) 41 = ((n : Int) * 2199023255552) % 18446744073709551616 := by
  show IntKind.u64.wrap _ = _
  rw [Qc3]; rfl
 rw [show (8388607 : Int) = ((8388607 : Nat) : Int) from rfl, Q24 _ _ hn (by decide), e, show (8388607 : Nat) = 2 ^ 23 - 1 from rfl, Nat.and_two_pow_sub_one_eq_mod]
 apply propext; omega
theorem Qu4 (n : Nat) (hn : n < 18446744073709551616) : (Q13 .u64 (n : Int) 4503599627370495 ≠ 0) = (Q0d .u64 (n : Int) 12 ≠ 0) := by
 have e : Q0d .u64 (n : Int) 12 = ((n : Int) * 4096) % 18446744073709551616 := by
  show IntKind.u64.wrap _ = _
  rw [Qc3]; rfl
 rw [show (4503599627370495 : Int) = ((4503599627370495 : Nat) : Int) from rfl, Q24 _ _ hn (by decide), e, show (4503599627370495 : Nat) = 2 ^ 52 - 1 from rfl, Nat.and_two_pow_sub_one_eq_mod]
 apply propext; omega
end
end Go.Av
namespace Go.Av
noncomputable section
open Go.Proofs
set_option maxRecDepth 100000
open Classical in
open Classical in
open Classical in
end
end Go.Av
namespace Go.Av
noncomputable section
open Go.Proofs
set_option maxRecDepth 100000
def Qpy (k : Nat) : Bool := !(decide ((Xd k).2.1 = 25)) || decide ((Xd k).1 = 0)
theorem Qmx : ((List.range 40).all Qpy) = true := by decide +kernel
theorem Qt6 {code : Int} (h : ofB code = true) (hk : (ofS code).Kind = 25) : code = 0 := by
 have := Qfr (P := fun t => t.2.1 = 25 → t.1 = 0) Qmx (fun k hk h1 => by simpa [Qpy, h1] using hk) h hk
 rw [← (Q6i code h).code]; exact this
theorem Qcs {d : Int → List UInt8 → Rd} {s : List UInt8} (he : (Qt d s).2.2 = 0) : ∃ b u, s = b :: u ∧ (d (b.toNat : Int) u).2.2 = 0 ∧ Qt d s = ((d (b.toNat : Int) u).1, (d (b.toNat : Int) u).2.1 + 1, 0) := by
 cases s with
 | nil => simp [Qt] at he
 | cons b u =>
  have h1 : (d (b.toNat : Int) u).2.2 = 0 := by
   simp only [Qt] at he
   split at he
   ·rename_i h1; exact absurd he h1
   ·rename_i h1; exact Classical.byContradiction h1
  refine ⟨b, u, rfl, h1, ?_⟩
  simp only [Qt]; rw [if_neg (by simp [h1])]
noncomputable def Qda (d : Int → List UInt8 → Rd) (code : Int) (s : List UInt8) : Rd := if (ofS code).Kind = 25 then Qev (Qt d) s else if (ofS code).Sized = false then (⟨(ofS code).Kind, 0, [], []⟩, 0, 0) else Q2a d (ofS code) s
theorem Q2q {code : Int} (h1 : ofB code = true) (h2 : (ofS code).Items = false) (m : Nat) (s : List UInt8) : Y8 m code s = Q7l code s := by
 cases m <;> simp only [Y8, h1, h2, if_true, if_false, Bool.true_eq_false]
theorem Q3p {code : Int} (h1 : ofB code = true) (h2 : (ofS code).Items = true) (m : Nat) (s : List UInt8) : Y8 (m + 1) code s = Qda (Y8 m) code s := by
 simp only [Y8, h1, h2, if_false, Bool.true_eq_false]; rfl
theorem Q82 {m : Nat} {code : Int} {s : List UInt8} (he : (Y8 m code s).2.2 = 0) : ofB code = true ∧ ((ofS code).Items = false ∨ (ofS code).Items = true ∧ ∃ k, m = k + 1) := by
 have h1 : ofB code = true := by
  cases h : ofB code with
  | true => rfl
  | false => cases m <;> simp [Y8, h] at he
 refine ⟨h1, ?_⟩
 cases h2 : (ofS code).Items with
 | false => exact .inl rfl
 | true =>
  cases m with
  | zero => simp [Y8, h1, h2] at he
  | succ m => exact .inr ⟨rfl, m, rfl⟩
theorem Q1m {rd : List UInt8 → Rd} {P : Q0 → Prop} (hP : ∀ s, s.length ≤ 300000 → (rd s).2.2 = 0 → P (rd s).1) : ∀ (c : Nat) (s : List UInt8) (acc : List Q0), s.length ≤ 300000 → (∀ x ∈ acc, P x) → (X3 rd c s acc).2 = 0 → (∀ x ∈ (X3 rd c s acc).1.1, P x) ∧ (X3 rd c s acc).1.1.length = acc.length + c
 | 0, s, acc, _, ha, _ => ⟨by simpa [X3] using ha, by simp [X3]⟩
 | c + 1, s, acc, hs, ha, h => by
  rw [X3] at h ⊢
  split at h
  ·rename_i he; exact absurd h he
  ·rename_i he
   rw [if_neg he]
   have := Q1m hP c (s.drop (rd s).2.1.toNat) (acc ++ [(rd s).1]) (by rw [List.length_drop]; omega) (fun x hx => by
    rcases List.mem_append.1 hx with hx | hx
    ·exact ha x hx
    ·rw [List.mem_singleton.1 hx]; exact hP s hs (Classical.byContradiction he)) h
   refine ⟨this.1, ?_⟩
   rw [this.2, List.length_append, List.length_singleton]; omega
theorem Q6m : ∀ (l : List Q0) (k n m : Int), (∀ x ∈ l, Yh x m = 0 ∧ (k = 24 → IntKind.u64.wrap x.Kind = n)) → G8 l k n m 0 = 0
 | [], _, _, _, _ => by rw [G8]
 | x :: l, k, n, m, h => by
  obtain ⟨h1, h2⟩ := h x (by simp)
  rw [G8, if_neg (fun hh => hh.2 (h2 hh.1)), if_neg (by simp [h1])]
  exact Q6m l k n m (fun y hy => h y (by simp [hy]))
theorem Qec {k n : Int} {l : List Q0} (h24 : k = 24 → 1 ≤ n ∧ n ≤ 24) (h0 : k ≠ 24 → n = 0) (h25 : k = 25 → l.length = 2) (h23 : k = 23 → l.length % 2 = 0) : Js ⟨k, n, [], l⟩ = true := by
 unfold Js Q6h
 simp only [Qa, Q0k, Va, Uk, Qfj, Zh]
 rw [if_neg (by simp)]
 by_cases e : k = 24
 ·rw [if_pos e, if_pos (h24 e).1]
  have := (h24 e).2
  simp [Q5n]; exact this
 ·rw [if_neg e, if_neg (by simp [h0 e])]
  by_cases e5 : k = 25
  ·rw [if_pos e5]
   simp [Va, h25 e5]
  ·rw [if_neg e5]
   by_cases e3 : k = 23
   ·rw [if_pos e3]
    have := h23 e3
    simp [Va, Int.tmod_eq_emod_of_nonneg]; omega
   ·rw [if_neg e3]; rfl
theorem Qlf {k n : Int} {l : List Q0} (h : k ≠ 23) : Q2v ⟨k, n, [], l⟩ = 0 := by
 unfold Q2v
 rw [if_pos h]
theorem Q7u {k n : Int} {l : List Q0} {m : Nat} (hk : 22 ≤ k ∧ k ≤ 25) (hl : l.length ≤ 1000) (hit : ∀ x ∈ l, Fine x ∧ Yh x m = 0 ∧ (k = 24 → IntKind.u64.wrap x.Kind = n)) (hkeys : Q2v ⟨k, n, [], l⟩ = 0)
  (h24 : k = 24 → 1 ≤ n ∧ n ≤ 24) (h0 : k ≠ 24 → n = 0) (h25 : k = 25 → l.length = 2) (h23 : k = 23 → l.length % 2 = 0) : Fine ⟨k, n, [], l⟩ ∧ Yh ⟨k, n, [], l⟩ ((m + 1 : Nat) : Int) = 0 := by
 refine ⟨.mk _ ?_ (by simp) (fun x hx => (hit x hx).1), ?_⟩
 ·by_cases h : k = 24
  ·have := h24 h; exact ⟨by simp only []; omega, by simp only []; omega⟩
  ·have := h0 h; exact ⟨by simp only []; omega, by simp only []; omega⟩
 ·rw [Q1b]
  simp only [hkeys, Qec h24 h0 h25 h23]
  rw [if_neg (by omega), if_neg (by omega), if_neg (by omega), if_neg (by omega), if_neg (by simp), if_neg (by omega), show (((m + 1 : Nat) : Int) - 1) = (m : Int) by omega]
  exact Q6m _ _ _ _ (fun x hx => (hit x hx).2)
theorem Q6n {code : Int} {s : List UInt8} (m : Int) (hs : s.length ≤ 300000) (h : (Q7l code s).2.2 = 0) : Fine (Q7l code s).1 ∧ Yh (Q7l code s).1 m = 0 ∧ (Q7l code s).1.Kind = (ofS code).Kind := by
 generalize hg : Q7l code s = g at h ⊢
 obtain ⟨x, n, e⟩ := g
 simp only at h
 subst h
 obtain ⟨h1, h2, h3, h4, h5, h6, h7⟩ := reads (by unfold Q7z; omega) hg
 obtain ⟨c1, c2, c3, c4, _⟩ := Vd h5
 show Fine x ∧ Yh x m = 0 ∧ x.Kind = (ofS code).Kind
 refine ⟨.mk _ h3 (by omega) (by simp [c4]), ?_, (Ju h6).2.1.symm⟩
 rw [Q1b, if_neg (by omega), if_neg (by omega), if_pos (by omega)]; exact h5
theorem Q6l : ∀ (m : Nat) (code : Int) (s : List UInt8), s.length ≤ 300000 → (Y8 m code s).2.2 = 0 → Fine (Y8 m code s).1 ∧ Yh (Y8 m code s).1 m = 0 ∧ (Y8 m code s).1.Kind = (ofS code).Kind := by
 intro m
 induction m with
 | zero =>
  intro code s hs he
  obtain ⟨h1, h2 | ⟨h2, k, hk⟩⟩ := Q82 he
  ·rw [Q2q h1 h2] at he ⊢
   exact Q6n _ hs he
  ·omega
 | succ m ih =>
  intro code s hs he
  obtain ⟨h1, h2 | ⟨h2, k, hk⟩⟩ := Q82 he
  ·rw [Q2q h1 h2] at he ⊢
   exact Q6n _ hs he
  rw [Q3p h1 h2] at he ⊢
  have hsh := Wu h1 h2
  have hrd : ∀ s : List UInt8, s.length ≤ 300000 → (Qt (Y8 m) s).2.2 = 0 → Fine (Qt (Y8 m) s).1 ∧ Yh (Qt (Y8 m) s).1 m = 0 := fun s hs he => by
   obtain ⟨b, u, rfl, e1, e2⟩ := Qcs he
   have := ih b.toNat u (by simp at hs; omega) e1
   rw [e2]; exact ⟨this.1, this.2.1⟩
  unfold Qda at he ⊢
  by_cases k25 : (ofS code).Kind = 25
  ·rw [if_pos k25] at he ⊢
   have e1 : (X3 (Qt (Y8 m)) 2 s []).2 = 0 := by
    unfold Qev at he
    split at he
    ·exact he
    ·rename_i h1; exact Classical.byContradiction h1
   obtain ⟨i1, i2⟩ := Q1m (P := fun x => Fine x ∧ Yh x m = 0) hrd 2 s [] hs (by simp) e1
   unfold Qev
   rw [if_neg (by simp [e1]), k25]
   simp only []
   have hl2 : (X3 (Qt (Y8 m)) 2 s []).1.1.length = 2 := by simpa using i2
   have := Q7u (k := 25) (n := 0) (l := (X3 (Qt (Y8 m)) 2 s []).1.1) (m := m) (by omega) (by omega) (fun x hx => ⟨(i1 x hx).1, (i1 x hx).2, fun h => by omega⟩) (Qlf (by omega)) (by omega) (fun _ => rfl) (fun _ => hl2) (by omega)
   exact ⟨this.1, this.2, trivial⟩
  rw [if_neg k25] at he ⊢
  by_cases hsz : (ofS code).Sized = false
  ·rw [if_pos hsz] at he ⊢
   have hk : (ofS code).Kind = 22 := by have := hsh.2 hsz; omega
   rw [hk]
   have := Q7u (k := 22) (n := 0) (l := []) (m := m) (by omega) (by simp) (by simp) (Qlf (by omega)) (by omega) (fun _ => rfl) (by omega) (by omega)
   exact ⟨this.1, this.2, rfl⟩
  rw [if_neg hsz] at he ⊢
  have hsz : (ofS code).Sized = true := by
   cases h : (ofS code).Sized with
   | true => rfl
   | false => exact absurd h hsz
  obtain ⟨body, num, q, cnt, rest, p1, p2, p3, p4, p5, p6, p7, p8⟩ := Qh3 he
  obtain ⟨f1, f2, f3, f4⟩ := Qfz p7
  rw [p8, f4]
  have hk := (hsh.1 hsz).2
  have hbl2 : body.length ≤ s.length := by
   rw [p2]
   exact Nat.le_trans (List.length_take_le' _ _) (by rw [List.length_drop]; exact Nat.sub_le _ _)
  rcases p5 with ⟨q0, q1, q2, q3⟩ | ⟨q0, b, q1, q2, q3, q4, q5⟩
  ·have hrl : rest.length ≤ body.length := by rw [q2, List.length_drop]; omega
   rw [q3] at f1
   obtain ⟨i1, i2⟩ := Q1m (P := fun x => Fine x ∧ Yh x m = 0) hrd cnt rest [] (by omega) (by simp) f1
   rw [← q3] at i1 i2
   have hlc : q.1.1.length = cnt := by simpa using i2
   have := Q7u (k := (ofS code).Kind) (n := num) (l := q.1.1) (m := m) (by omega) (by omega) (fun x hx => ⟨(i1 x hx).1, (i1 x hx).2, fun h => absurd h q0⟩) f3 (fun h => absurd h q0) (fun _ => q1) (by omega) (fun h => by rw [hlc]; exact p6 h)
   exact ⟨this.1, this.2, rfl⟩
  ·have hrl : rest.length ≤ body.length := by
    have := congrArg List.length q1
    rw [List.length_drop, List.length_cons] at this; omega
   rw [q5] at f1
   obtain ⟨i1, i2⟩ := Q1m (P := fun x => Fine x ∧ Yh x m = 0 ∧ x.Kind = (ofS (b.toNat : Int)).Kind) (ih (b.toNat : Int)) cnt rest [] (by omega) (by simp) f1
   rw [← q5] at i1 i2
   have hlc : q.1.1.length = cnt := by simpa using i2
   have hbk := (Q6i _ q2).kind
   have hb25 : (ofS (b.toNat : Int)).Kind ≠ 25 := fun h => q3 (by have := Qt6 q2 h; omega)
   have := Q7u (k := (ofS code).Kind) (n := num) (l := q.1.1) (m := m) (by omega) (by omega) (fun x hx => ⟨(i1 x hx).1, (i1 x hx).2.1, fun _ => by rw [(i1 x hx).2.2, q4, Qc3]; omega⟩) f3 (fun _ => by rw [q4]; omega) (fun h => absurd q0 h) (by omega) (by omega)
   exact ⟨this.1, this.2, rfl⟩
end
end Go.Av
namespace Go.Av
noncomputable section
open Go.Proofs
set_option maxRecDepth 100000
end
end Go.Av
namespace Go.Av
noncomputable section
open Go.Proofs
set_option maxRecDepth 100000
end
end Go.Av
namespace Go.Av
noncomputable section
open Go.Proofs
set_option maxRecDepth 100000
def J3 (code : Int) (v : Q0) (b : List UInt8) : Bool :=
 if (ofS code).Items = false then Jb code v else if (ofS code).Width = 0 then decide (v.Items.length = 0)
 else decide ((ofS code).Width = 4 ∨ (v.Items.length < 256 ∧ b.length + 1 < 256))
def Zt (code : Int) (v : Q0) (b : List UInt8) : List UInt8 :=
 if (ofS code).Items = false then (Qpd code v).1 else if (ofS code).Sized = false then []
 else V8 (b.length + (ofS code).Width.toNat) (ofS code).Width.toNat ++ (V8 v.Items.length (ofS code).Width.toNat ++ b)
def Qie (c : Int) (l : List (Q0 × List UInt8)) : Bool := l.all fun p => J3 c p.1 p.2
def Q0s (k : Int) (l : List (Q0 × List UInt8)) : Int := ((Xp k).find? (fun c => Qie c l)).getD 0
def Q35 (c : Int) : UInt8 := UInt8.ofNat c.toNat
def Qvl (n : Int) (l : List (Q0 × List UInt8)) : List UInt8 := Q35 (Q0s n l) :: (l.map fun p => Zt (Q0s n l) p.1 p.2).flatten
def Qud (k n : Int) (is : List Q0) (l : List (List UInt8 × List UInt8)) : List UInt8 := if k = 24 then Qvl n (is.zip (l.map (·.1))) else if k = 25 then [] else (l.map (·.2)).flatten
def Quh (v : Q0) (b : List UInt8) (l : List (List UInt8 × List UInt8)) : List UInt8 := if v.Kind = 25 then 0 :: (l.map (·.2)).flatten else Q35 (Q0s v.Kind [(v, b)]) :: Zt (Q0s v.Kind [(v, b)]) v b
mutual
def Q0.enc : Q0 → List UInt8 × List UInt8
 | .mk k n t is => (Qud k n is (Q0.encs is), Quh ⟨k, n, t, is⟩ (Qud k n is (Q0.encs is)) (Q0.encs is))
def Q0.encs : List Q0 → List (List UInt8 × List UInt8)
 | [] => []
 | v :: l => v.enc :: Q0.encs l
end
def Q0.inn (v : Q0) : List UInt8 := v.enc.1
def Q0.byt (v : Q0) : List UInt8 := v.enc.2
theorem Qgb : ∀ l, Q0.encs l = l.map Q0.enc
 | [] => rfl
 | v :: l => by rw [Q0.encs, Qgb l]; rfl
def Q0.prs (v : Q0) : List (Q0 × List UInt8) := v.Items.map fun x => (x, x.inn)
def Q0.elm (v : Q0) : Int := Q0s v.N' v.prs
def Q0.cod (v : Q0) : Int := Q0s v.Kind [(v, v.inn)]
theorem Qqw (l : List Q0) : l.zip ((l.map Q0.enc).map (·.1)) = l.map fun x => (x, x.inn) := by
 induction l with
 | nil => rfl
 | cons x l ih => simp only [List.map_cons, List.zip_cons_cons, ih]; rfl
theorem Q41 (v : Q0) : v.inn = if v.Kind = 24 then Q35 v.elm :: (v.Items.map fun x => Zt v.elm x x.inn).flatten else if v.Kind = 25 then [] else (v.Items.map Q0.byt).flatten := by
 obtain ⟨k, n, t, is⟩ := v
 unfold Q0.inn
 rw [Q0.enc, Qgb]
 simp only [Qud, Qqw, Q0.elm, Q0.prs, Qvl]
 simp only [List.map_map]
 rfl
theorem Qf3 (v : Q0) : v.byt = if v.Kind = 25 then 0 :: (v.Items.map Q0.byt).flatten else Q35 v.cod :: Zt v.cod v v.inn := by
 obtain ⟨k, n, t, is⟩ := v
 unfold Q0.byt Q0.cod Q0.inn
 rw [Q0.enc, Qgb]
 simp only [Quh, List.map_map]
 rfl
theorem Qc9 {k : Int} {l : List (Q0 × List UInt8)} (h : ∃ c ∈ Xp k, Qie c l = true) : Q0s k l ∈ Xp k ∧ Qie (Q0s k l) l = true := by
 unfold Q0s
 cases hf : (Xp k).find? (fun c => Qie c l) with
 | some c => exact ⟨List.mem_of_find?_eq_some hf, by simpa using List.find?_some hf⟩
 | none =>
  obtain ⟨c, h1, h2⟩ := h
  have := List.find?_eq_none.1 hf c h1
  exact absurd h2 this
theorem Qi0 {k : Int} {l : List (Q0 × List UInt8)} {c : Int} (hc : c ∈ Xp k) (h : Qie c l = true) : (ofS (Q0s k l)).Width ≤ (ofS c).Width := by
 unfold Q0s
 have hp := Qfn k
 cases hf : (Xp k).find? (fun c => Qie c l) with
 | none => exact absurd h (List.find?_eq_none.1 hf c hc)
 | some d =>
  obtain ⟨l1, l2, e, ha⟩ := (List.find?_eq_some_iff_append.1 hf).2
  show (ofS d).Width ≤ (ofS c).Width
  rw [e] at hc hp
  rcases List.mem_append.1 hc with h1 | h1
  ·have := ha c h1
   simp [h] at this
  ·rcases List.mem_cons.1 h1 with rfl | h1
   ·exact Int.le_refl _
   ·exact (List.pairwise_cons.1 (List.pairwise_append.1 hp).2.1).1 c h1
def Gh (k : Int) : Int := (Xp k).getLastD 0
def Qk2 (k : Nat) : Bool := !(decide (1 ≤ k)) || ((Xp k).contains (Gh k) && ((k == 25) || (if (ofS (Gh k)).Items then decide ((ofS (Gh k)).Width = 4) && (ofS (Gh k)).Sized else if (ofS (Gh k)).Sized then decide ((ofS (Gh k)).Width = 4) else decide ((ofS (Gh k)).Code ≠ 65) && (decide ((ofS (Gh k)).Width = 0 ∧ (Ut k).1 = 0 ∧ (Ut k).2 = false) || (decide ((ofS (Gh k)).Width = 1) && decide (8 = (Ut k).1 ∨ (Ut k).1 = 1 ∧ (Ut k).2 = false)) || decide (1 < (ofS (Gh k)).Width)))))
theorem Qjw : ((List.range 26).all Qk2) = true := by decide +kernel
theorem Q9l {k : Int} (h : 1 ≤ k ∧ k ≤ 25) : Qk2 k.toNat = true := List.all_eq_true.1 Qjw k.toNat (by simp; omega)
theorem Qlk {v : Q0} (hn : okU v.N') (h : Vn v = 0) : Gh v.Kind ∈ Xp v.Kind ∧ Jb (Gh v.Kind) v = true := by
 obtain ⟨c1, c2, c3, c4, c5, c6, c7⟩ := Vd h
 have hb := Q9l (k := v.Kind) (by omega)
 unfold Qk2 at hb
 rw [show ((v.Kind.toNat : Nat) : Int) = v.Kind by omega] at hb
 simp only [Bool.or_eq_true, Bool.not_eq_true', decide_eq_false_iff_not, Bool.and_eq_true, List.contains_iff_mem, beq_iff_eq] at hb
 rcases hb with hb | ⟨hm, hb⟩
 ·omega
 ·refine ⟨hm, ?_⟩
  obtain ⟨d1, d2, d3⟩ := G3 _ _ hm
  have hw := Q6i _ d1
  have hi := Vx hw (by omega)
  rcases hb with hb | hb
  ·omega
  rw [hi] at hb
  simp only [Bool.false_eq_true, if_false] at hb
  have hs : Q1a (ofS (Gh v.Kind)) v = true := by
   unfold Q1a
   by_cases hz : (ofS (Gh v.Kind)).Sized = true
   ·rw [if_pos hz] at hb
    have h4 : (ofS (Gh v.Kind)).Width = 4 := by simpa using hb
    obtain ⟨_, _, _, h65⟩ := hw.sized hi hz
    rw [if_neg h65, if_pos hz]
    simp [h4]
   ·rw [if_neg hz] at hb
    simp only [Bool.and_eq_true, Bool.or_eq_true, decide_eq_true_eq] at hb
    obtain ⟨h65, hb⟩ := hb
    rw [if_neg h65, if_neg hz]
    have hnum := c3
    unfold Q9f at hnum
    simp only [Bool.and_eq_true] at hnum
    have hf := hnum.1
    rcases hb with (⟨w0, b0, b1⟩ | ⟨w1, hb⟩) | w2
    ·rw [if_pos w0]
     rw [b0, b1] at hf
     unfold Q3s at hf
     simp at hf ⊢
     have := hn.1
     omega
    ·rw [if_neg (by omega), if_pos w1, d3]
     rcases hb with hb | ⟨b1, b2⟩
     ·rw [← hb] at hf; exact hf
     ·rw [b1, b2] at hf
      rw [b2]
      unfold Q3s at hf ⊢
      simp at hf ⊢
      omega
    ·rw [if_neg (by omega), if_neg (by omega)]
  unfold Jb
  simp [d1, d3, h, hs]
end
end Go.Av
namespace Go.Av
noncomputable section
open Go.Proofs
set_option maxRecDepth 100000
theorem Q95 : ∀ (l : List Q0) (k n m e : Int), G8 l k n m e = 0 → e = 0 ∧ ∀ x ∈ l, Yh x m = 0 ∧ (k = 24 → IntKind.u64.wrap x.Kind = n)
 | [], _, _, _, _, h => ⟨by simpa [G8] using h, fun x hx => by cases hx⟩
 | x :: l, k, n, m, e, h => by
  rw [G8] at h
  split at h
  ·cases h
  ·rename_i h1
   split at h
   ·rename_i h2; exact absurd h h2
   ·rename_i h2
    obtain ⟨i1, i2⟩ := Q95 l k n m e h
    refine ⟨i1, fun y hy => ?_⟩
    rcases List.mem_cons.1 hy with rfl | hy
    ·exact ⟨Classical.byContradiction h2, fun hk => Classical.byContradiction fun hn => h1 ⟨hk, hn⟩⟩
    ·exact i2 y hy
theorem Gm {v : Q0} (h : Js v = true) : v.Text = [] ∧ (v.Kind = 24 → 1 ≤ v.N' ∧ v.N' ≤ 24) ∧ (v.Kind ≠ 24 → v.N' = 0) ∧ (v.Kind = 25 → v.Items.length = 2) ∧ (v.Kind = 23 → v.Items.length % 2 = 0) := by
 unfold Js Q6h at h
 simp only [Qa, Q0k, Va, Uk, Qfj, Zh] at h
 split at h
 ·cases h
 ·rename_i h1
  have h1 : v.Text = [] := by simpa using h1
  refine ⟨h1, ?_⟩
  split at h
  ·rename_i h2
   split at h
   ·rename_i h3
    have h4 : v.N' ≤ 24 := by
     have : Q9 .leq v.N' 24 = true := by simpa using h
     rw [Q5n] at this; exact this
    exact ⟨fun _ => ⟨h3, h4⟩, fun h => absurd h2 h, fun h => by omega, fun h => by omega⟩
   ·cases h
  ·rename_i h2
   split at h
   ·cases h
   ·rename_i h3
    have h3 : v.N' = 0 := by simpa using h3
    refine ⟨fun h => absurd h h2, fun _ => h3, ?_, ?_⟩
    ·intro h5
     rw [if_pos h5] at h
     have : Q9 .eql (v.Items.length : Int) 2 = true := by simpa using h
     rw [Va] at this; omega
    ·intro h5
     rw [if_neg (by omega), if_pos h5] at h
     have : Q9 .eql ((v.Items.length : Int).tmod 2) 0 = true := by simpa using h
     rw [Va, Int.tmod_eq_emod_of_nonneg (by omega)] at this; omega
theorem U9 {v : Q0} {m : Int} (h : Yh v m = 0) : (1 ≤ v.Kind ∧ v.Kind ≤ 21 ∧ Vn v = 0) ∨
  (22 ≤ v.Kind ∧ v.Kind ≤ 25 ∧ m ≠ 0 ∧ Js v = true ∧ v.Items.length ≤ 1000 ∧ Q2v v = 0 ∧ ∀ x ∈ v.Items, Yh x (m - 1) = 0 ∧ (v.Kind = 24 → IntKind.u64.wrap x.Kind = v.N')) := by
 rw [Q1b] at h
 split at h
 ·cases h
 ·split at h
  ·cases h
  ·split at h
   ·exact .inl ⟨by omega, by omega, h⟩
   ·split at h
    ·cases h
    ·split at h
     ·cases h
     ·rename_i hs
      split at h
      ·cases h
      ·obtain ⟨h1, h2⟩ := Q95 _ _ _ _ _ h
       exact .inr ⟨by omega, by omega, by assumption, by simpa using hs, by omega, h1, h2⟩
theorem Q3i {v : Q0} {m : Int} (h : Yh v m = 0) : 1 ≤ v.Kind ∧ v.Kind ≤ 25 := by
 rcases U9 h with ⟨h1, h2, _⟩ | ⟨h1, h2, _⟩ <;> omega
theorem Q15 {v : Q0} {m : Int} (h : Yh v m = 0) : IntKind.u64.wrap v.Kind = v.Kind := by
 have := Q3i h
 rw [Qc3]; omega
theorem Qix {k : Int} (h : 22 ≤ k ∧ k ≤ 24) : Gh k ∈ Xp k ∧ (ofS (Gh k)).Items = true ∧ (ofS (Gh k)).Width = 4 := by
 have hb := Q9l (k := k) (by omega)
 unfold Qk2 at hb
 rw [show ((k.toNat : Nat) : Int) = k by omega] at hb
 simp only [Bool.or_eq_true, Bool.not_eq_true', decide_eq_false_iff_not, Bool.and_eq_true, List.contains_iff_mem, beq_iff_eq] at hb
 rcases hb with hb | ⟨hm, hb⟩
 ·omega
 ·obtain ⟨d1, d2, d3⟩ := G3 _ _ hm
  have hi : (ofS (Gh k)).Items = true := by rw [(Q6i _ d1).items, d3]; simp; omega
  rcases hb with hb | hb
  ·omega
  ·rw [if_pos hi] at hb
   simp only [Bool.and_eq_true, decide_eq_true_eq] at hb
   exact ⟨hm, hi, hb.1⟩
theorem Qf2 {v : Q0} {m : Int} (hf : Fine v) (h : Yh v m = 0) (hk : v.Kind ≠ 25) (b : List UInt8) : Gh v.Kind ∈ Xp v.Kind ∧ J3 (Gh v.Kind) v b = true := by
 rcases U9 h with ⟨h1, h2, h3⟩ | ⟨h1, h2, _⟩
 ·obtain ⟨g1, g2⟩ := Qlk hf.num h3
  obtain ⟨f1, f2, _⟩ := Ju g2
  refine ⟨g1, ?_⟩
  unfold J3
  rw [if_pos (Vx (Q6i _ f1) (by omega))]; exact g2
 ·obtain ⟨g1, g2, g3⟩ := Qix (k := v.Kind) (by omega)
  refine ⟨g1, ?_⟩
  unfold J3
  rw [if_neg (by simp [g2]), if_neg (by omega)]
  simp [g3]
theorem Ql6 {v : Q0} {m : Int} (hf : Fine v) (h : Yh v m = 0) (hk : v.Kind = 24) : v.elm ∈ Xp v.N' ∧ ∀ x ∈ v.Items, J3 v.elm x x.inn = true := by
 rcases U9 h with ⟨h1, h2, h3⟩ | ⟨h1, h2, h3, h4, h5, h6, h7⟩
 ·omega
 obtain ⟨s1, s2, s3, s4, s5⟩ := Gm h4
 have hn := s2 hk
 have hkx : ∀ x ∈ v.Items, x.Kind = v.N' := fun x hx => by
  have := (h7 x hx).2 hk
  rw [Q15 (h7 x hx).1] at this; exact this
 have hlast : Gh v.N' ∈ Xp v.N' := by
  have hb := Q9l (k := v.N') (by omega)
  unfold Qk2 at hb
  rw [show ((v.N'.toNat : Nat) : Int) = v.N' by omega] at hb
  simp only [Bool.or_eq_true, Bool.not_eq_true', decide_eq_false_iff_not, Bool.and_eq_true, List.contains_iff_mem] at hb
  rcases hb with hb | ⟨hm, _⟩
  ·omega
  ·exact hm
 obtain ⟨g1, g2⟩ := Qc9 (k := v.N') (l := v.prs) ⟨Gh v.N', hlast, by
  unfold Qie Q0.prs
  rw [List.all_map, List.all_eq_true]
  intro x hx
  have hkk := hkx x hx
  have := (Qf2 (hf.items x hx) (h7 x hx).1 (by omega) x.inn).2
  rw [hkk] at this
  exact this⟩
 refine ⟨g1, fun x hx => ?_⟩
 have := List.all_eq_true.1 g2 (x, x.inn) (by unfold Q0.prs; exact List.mem_map.2 ⟨x, hx, rfl⟩)
 exact this
theorem Qex {v : Q0} {m : Int} (hf : Fine v) (h : Yh v m = 0) (hk : v.Kind ≠ 25) : v.cod ∈ Xp v.Kind ∧ J3 v.cod v v.inn = true := by
 obtain ⟨l1, l2⟩ := Qf2 hf h hk v.inn
 obtain ⟨g1, g2⟩ := Qc9 (k := v.Kind) (l := [(v, v.inn)]) ⟨Gh v.Kind, l1, by simp [Qie, l2]⟩
 exact ⟨g1, by unfold Q0.cod; simpa [Qie] using g2⟩
mutual
def Q0.wgt : Q0 → Nat
 | .mk _ _ t is => t.length + 30 + Q0.wgts is
def Q0.wgts : List Q0 → Nat
 | [] => 0
 | v :: l => v.wgt + Q0.wgts l
end
theorem Q0.wgt_eq (v : Q0) : v.wgt = v.Text.length + 30 + Q0.wgts v.Items := by cases v; simp only [Q0.wgt]
theorem Q4q : ∀ (l : List Q0), ∀ x ∈ l, x.wgt ≤ Q0.wgts l
 | v :: l, x, hx => by
  simp only [Q0.wgts]
  rcases List.mem_cons.1 hx with rfl | hx
  ·omega
  ·have := Q4q l x hx; omega
theorem Q4z (code : Int) : 0 ≤ (ofS code).Width ∧ (ofS code).Width.toNat ≤ 16 := by
 cases h : ofB code with
 | false => rw [Qh2 code h]; decide
 | true =>
  have hw := Q6i code h
  cases hi : (ofS code).Items with
  | false =>
   cases hw.shape hi with
   | sized w hs hw' h12 hk2 hc => rw [hw']; omega
   | wide hs hw' hk2 hc => rw [hw']; decide
   | num w hs hw' hh ht hc hbb => rw [hw']; omega
  | true =>
   obtain ⟨h1, h2⟩ := Wu h hi
   cases hs : (ofS code).Sized with
   | true => have := (h1 hs).1; omega
   | false =>
    have : (ofS code).Width = 0 := (Qm4 (P := fun t => t.2.2.2.2 = true → t.2.2.2.1 = false → t.2.2.1 = 0) (B := fun k => !(Xd k).2.2.2.2 || ((Xd k).2.2.2.1 || decide ((Xd k).2.2.1 = 0))) (by decide +kernel) (fun k hk h1 h2 => by simpa [h1, h2] using hk) h) hi hs
    omega
theorem Qrt (code : Int) (v : Q0) : (Qpd code v).1.length ≤ v.Text.length + 16 := by
 unfold Qpd
 split
 ·simp
 ·split
  ·simp
  ·rename_i hf
   have hf : Jb code v = true := by simpa using hf
   have := Q0r hf
   have := Q4z code
   simp only []
   split at * <;> omega
theorem Qn0 (code : Int) (v : Q0) (b : List UInt8) : (Zt code v b).length ≤ v.Text.length + 16 + b.length := by
 unfold Zt
 split
 ·have := Qrt code v; omega
 ·rename_i hi
  have hi : (ofS code).Items = true := by simpa using hi
  split
  ·simp
  ·rename_i hs
   have hs : (ofS code).Sized = true := by simpa using hs
   have hw : (ofS code).Width.toNat ≤ 4 := by
    cases h : ofB code with
    | false => rw [Qh2 code h]; decide
    | true => have := (Wu h hi).1 hs; omega
   simp [Za]; omega
theorem Q4p (v : Q0) : v.inn.length ≤ 1 + Q0.wgts v.Items ∧ v.byt.length ≤ v.wgt ∧ ∀ c, (Zt c v v.inn).length + 1 ≤ v.wgt := by
 induction v using Q0.ind with
 | h v ih =>
  have s1 : ∀ (l : List Q0), (∀ x ∈ l, x.byt.length ≤ x.wgt) → (l.map Q0.byt).flatten.length ≤ Q0.wgts l := by
   intro l
   induction l with
   | nil => intro _; simp
   | cons x l ihl =>
    intro h
    have h1 := h x (.head _)
    have h2 := ihl (fun y hy => h y (.tail _ hy))
    simp only [List.map_cons, List.flatten_cons, List.length_append, Q0.wgts]; omega
  have s2 : ∀ (c : Int) (l : List Q0), (∀ x ∈ l, ∀ c, (Zt c x x.inn).length + 1 ≤ x.wgt) → (l.map fun x => Zt c x x.inn).flatten.length ≤ Q0.wgts l := by
   intro c l
   induction l with
   | nil => intro _; simp
   | cons x l ihl =>
    intro h
    have h1 := h x (.head _) c
    have h2 := ihl (fun y hy => h y (.tail _ hy))
    simp only [List.map_cons, List.flatten_cons, List.length_append, Q0.wgts]; omega
  have hin : v.inn.length ≤ 1 + Q0.wgts v.Items := by
   rw [Q41]
   split
   ·have := s2 v.elm v.Items (fun x hx => (ih x hx).2.2)
    simp only [List.length_cons]; omega
   ·split
    ·simp
    ·have := s1 v.Items (fun x hx => (ih x hx).2.1)
     omega
  have hd : ∀ c, (Zt c v v.inn).length + 1 ≤ v.wgt := fun c => by
   have := Qn0 c v v.inn
   rw [v.wgt_eq]; omega
  refine ⟨hin, ?_, hd⟩
  rw [Qf3]
  split
  ·have := s1 v.Items (fun x hx => (ih x hx).2.1)
   rw [v.wgt_eq]; simp only [List.length_cons]; omega
  ·have := hd v.cod
   simp only [List.length_cons]; omega
end
end Go.Av
namespace Go.Av
noncomputable section
open Go.Proofs
set_option maxRecDepth 100000
theorem Q5q {rd : List UInt8 → Rd} {e : Q0 → List UInt8} : ∀ (l acc : List Q0) (rest : List UInt8), (∀ x ∈ l, ∀ t, rd (e x ++ t) = (x, ((e x).length : Int), 0)) → X3 rd l.length ((l.map e).flatten ++ rest) acc = ((acc ++ l, rest), 0)
 | [], acc, rest, _ => by simp [X3]
 | x :: l, acc, rest, h => by
  have h1 := h x (.head _) ((l.map e).flatten ++ rest)
  rw [List.length_cons, X3, List.map_cons, List.flatten_cons, List.append_assoc, h1]
  simp only [ne_eq, not_true_eq_false, if_false, Int.toNat_natCast, List.drop_left]
  rw [Q5q l (acc ++ [x]) rest (fun y hy => h y (.tail _ hy))]
  simp
theorem Q2l {c : Int} (h : 0 ≤ c ∧ c < 256) : ((Q35 c).toNat : Int) = c := by
 unfold Q35
 rw [UInt8.toNat_ofNat']
 omega
theorem of0 : ofB 0 = true ∧ (ofS 0).Kind = 25 ∧ (ofS 0).Items = true := by decide +kernel
theorem Qb8 {code : Int} (h : ofB code = true) (hi : (ofS code).Items = true) (hs : (ofS code).Sized = false) : (ofS code).Width = 0 :=
 (Qm4 (P := fun t => t.2.2.2.2 = true → t.2.2.2.1 = false → t.2.2.1 = 0) (B := fun k => !(Xd k).2.2.2.2 || ((Xd k).2.2.2.1 || decide ((Xd k).2.2.1 = 0))) (by decide +kernel) (fun k hk h1 h2 => by simpa [h1, h2] using hk) h) hi hs
theorem Qhv {k num : Int} {l : List Q0} {tot : Nat} (hk : Q2v ⟨k, num, [], l⟩ = 0) : Qaj k num ((l, []), 0) tot = (⟨k, num, [], l⟩, (tot : Int), 0) := by
 unfold Qaj
 rw [if_neg (by simp), if_neg (by simp), if_neg (by simp [hk])]
theorem Qn2 {n w : Nat} (s : List UInt8) (h : n < 256 ^ w) : Vj ((V8 n w ++ s).take w) = n := by
 rw [List.take_left' (Za w n), Q1k, Nat.mod_eq_of_lt h]
theorem Qj8 {d : Int → List UInt8 → Rd} {c : X5} {v : Q0} {w : Nat} (hw : c.Width = (w : Int)) (hk : c.Kind = v.Kind) (hs : c.Sized = true) (hn : v.Items.length < 256 ^ w) (hl : v.inn.length + w < 256 ^ w) (hn2 : v.Items.length ≤ 1000)
  (h23 : v.Kind = 23 → v.Items.length % 2 = 0) (hkeys : Q2v v = 0) (ht : v.Text = []) (hnum : v.Kind ≠ 24 → v.N' = 0)
  (h24 : v.Kind = 24 → ofB v.elm = true ∧ v.elm ≠ 0 ∧ (ofS v.elm).Kind = v.N' ∧ ∀ x ∈ v.Items, ∀ t, d v.elm (Zt v.elm x x.inn ++ t) = (x, ((Zt v.elm x x.inn).length : Int), 0))
  (hot : v.Kind ≠ 24 → v.Kind ≠ 25 ∧ ∀ x ∈ v.Items, ∀ t, Qt d (x.byt ++ t) = (x, (x.byt.length : Int), 0)) (s : List UInt8) :
  Q2a d c (V8 (v.inn.length + w) w ++ (V8 v.Items.length w ++ v.inn) ++ s) = (v, ((V8 (v.inn.length + w) w ++ (V8 v.Items.length w ++ v.inn)).length : Int), 0) := by
 have hwn : c.Width.toNat = w := by rw [hw]; rfl
 have e0 : (V8 (v.inn.length + w) w ++ (V8 v.Items.length w ++ v.inn) ++ s) = V8 (v.inn.length + w) w ++ ((V8 v.Items.length w ++ v.inn) ++ s) := by rw [List.append_assoc]
 have hlen : (V8 (v.inn.length + w) w ++ ((V8 v.Items.length w ++ v.inn) ++ s)).length = w + (w + v.inn.length + s.length) := by simp [Za]; omega
 unfold Q2a
 rw [hwn, e0, Qn2 _ hl, if_neg (by rw [hlen]; omega), if_neg (by rw [hlen]; omega), List.drop_left' (Za w _),
  List.take_left' (show (V8 v.Items.length w ++ v.inn).length = v.inn.length + w by simp [Za]; omega)]
 unfold Qms
 rw [if_neg (by simp [Za]), Qn2 _ hn, if_neg (by omega), if_neg (by rw [hk]; intro h; exact h.2 (h23 h.1)), List.drop_left' (Za w _)]
 have hv : ∀ num, num = v.N' → (⟨c.Kind, num, [], v.Items⟩ : Q0) = v := fun num h => by
  apply Q0.ext' <;> simp [hk, ht, h]
 have htot : ((w + (v.inn.length + w) : Nat) : Int) = ((V8 (v.inn.length + w) w ++ (V8 v.Items.length w ++ v.inn)).length : Int) := by simp [Za]; omega
 by_cases h4 : v.Kind = 24
 ·obtain ⟨g1, g2, g3, g4⟩ := h24 h4
  have hr := Q5r g1
  rw [if_pos (by omega)]
  have hin := Q41 v
  rw [if_pos h4] at hin
  rw [hin]
  simp only [Qs2]
  rw [← hin, Q2l hr, if_neg (by
   rintro (h | h)
   ·rw [g1] at h; cases h
   ·have := Q2l hr; omega)]
  have := Q5q (rd := d v.elm) (e := fun x => Zt v.elm x x.inn) v.Items [] [] g4
  rw [List.append_nil, List.nil_append] at this
  rw [this, Qhv (by rw [hv _ g3]; exact hkeys), hv _ g3, htot]
 ·obtain ⟨g1, g2⟩ := hot h4
  rw [if_neg (by omega)]
  have hin := Q41 v
  rw [if_neg h4, if_neg g1] at hin
  have := Q5q (rd := Qt d) (e := Q0.byt) v.Items [] [] g2
  rw [List.append_nil, List.nil_append, ← hin] at this
  rw [this, Qhv (by rw [hv 0 (hnum h4).symm]; exact hkeys), hv 0 (hnum h4).symm, htot]
theorem Qmb {v x : Q0} (hx : x ∈ v.Items) : x.wgt ≤ v.wgt := by
 have := Q4q _ x hx
 rw [v.wgt_eq]; omega
theorem Qop (v : Q0) : ∀ m : Nat, Fine v → Yh v m = 0 → v.wgt < 4000000000 →
  (∀ c, ofB c = true → (ofS c).Kind = v.Kind → v.Kind ≠ 25 → J3 c v v.inn = true → ∀ s, Y8 m c (Zt c v v.inn ++ s) = (v, ((Zt c v v.inn).length : Int), 0)) ∧
  ∀ s, Qt (Y8 m) (v.byt ++ s) = (v, (v.byt.length : Int), 0) := by
 induction v using Q0.ind with
 | h v ih =>
  intro m hf hc hw
  have hP : ∀ c, ofB c = true → (ofS c).Kind = v.Kind → v.Kind ≠ 25 → J3 c v v.inn = true → ∀ s, Y8 m c (Zt c v v.inn ++ s) = (v, ((Zt c v v.inn).length : Int), 0) := by
   intro c c1 c2 c3 c4 s
   rcases U9 hc with ⟨k1, k2, k3⟩ | ⟨k1, k2, k3, k4, k5, k6, k7⟩
   ·have hi := Vx (Q6i c c1) (by omega)
    unfold J3 at c4
    rw [if_pos hi] at c4
    have hd : Zt c v v.inn = J1 (ofS c) v := by unfold Zt; rw [if_pos hi, Qkl c4]
    rw [hd, Q2q c1 hi]
    exact Qs1 hf.num c4 s
   ·obtain ⟨m', rfl⟩ : ∃ m', m = m' + 1 := ⟨m - 1, by omega⟩
    have hi : (ofS c).Items = true := by rw [(Q6i c c1).items, c2]; simp; omega
    obtain ⟨s1, s2, s3, s4, s5⟩ := Gm k4
    have hit : ∀ x ∈ v.Items, Yh x ((m' : Nat) : Int) = 0 := fun x hx => by
     have := (k7 x hx).1
     rwa [show (((m' + 1 : Nat) : Int) - 1) = (m' : Int) by omega] at this
    rw [Q3p c1 hi, Qda, if_neg (by omega)]
    unfold J3 at c4
    rw [if_neg (by simp [hi])] at c4
    obtain ⟨q1, q2⟩ := Wu c1 hi
    have hlen := (Q4p v).1
    rw [v.wgt_eq] at hw
    by_cases hs : (ofS c).Sized = true
    ·rw [if_neg (by simp [hs])]
     have hd : Zt c v v.inn = V8 (v.inn.length + (ofS c).Width.toNat) (ofS c).Width.toNat ++ (V8 v.Items.length (ofS c).Width.toNat ++ v.inn) := by
      unfold Zt
      rw [if_neg (by simp [hi]), if_neg (by simp [hs])]
     rw [hd]
     obtain ⟨w1, w2⟩ := q1 hs
     have c5 : (ofS c).Width = 4 ∨ (v.Items.length < 256 ∧ v.inn.length + 1 < 256) := by
      rw [if_neg (by omega)] at c4
      simpa using c4
     refine Qj8 (w := (ofS c).Width.toNat) (by have := Q4z c; omega) c2 hs ?_ ?_ k5 s5 k6 s1 s3 (fun h4 => ?_) (fun h4 => ⟨c3, fun x hx t => (ih x hx m' (hf.items x hx) (hit x hx) (by have := Q4q _ x hx; omega)).2 t⟩) s
     ·rcases w1 with w1 | w1
      ·rw [w1] at c5 ⊢; show v.Items.length < 256 ^ 1; omega
      ·rw [w1]; show v.Items.length < 256 ^ 4; omega
     ·rcases w1 with w1 | w1
      ·rw [w1] at c5 ⊢; show v.inn.length + 1 < 256 ^ 1; omega
      ·rw [w1]; show v.inn.length + 4 < 256 ^ 4; omega
     ·obtain ⟨e1, e2⟩ := Ql6 hf hc h4
      obtain ⟨d1, d2, d3⟩ := G3 _ _ e1
      have hnn := s2 h4
      refine ⟨d1, fun h0 => ?_, d3, fun x hx t => ?_⟩
      ·rw [h0] at d3
       have := of0.2.1
       omega
      ·have hkx : x.Kind = v.N' := by
        have := (k7 x hx).2 h4
        rwa [Q15 (k7 x hx).1] at this
       exact (ih x hx m' (hf.items x hx) (hit x hx) (by have := Q4q _ x hx; omega)).1 v.elm d1 (by rw [d3, hkx]) (by omega) (e2 x hx) t
    ·have hs : (ofS c).Sized = false := by simpa using hs
     rw [if_pos hs]
     have hw0 := Qb8 c1 hi hs
     rw [if_pos hw0] at c4
     have hl0 : v.Items = [] := List.length_eq_zero_iff.1 (by simpa using c4)
     have hk := q2 hs
     have hd : Zt c v v.inn = [] := by
      unfold Zt
      rw [if_neg (by simp [hi]), if_pos hs]
     rw [hd]
     have hve : (⟨(ofS c).Kind, 0, [], []⟩ : Q0) = v := by
      apply Q0.ext' <;> simp [c2, s1, hl0]
      exact (s3 (by omega)).symm
     rw [hve]; rfl
  refine ⟨hP, fun s => ?_⟩
  by_cases h5 : v.Kind = 25
  ·rcases U9 hc with ⟨k1, k2, k3⟩ | ⟨k1, k2, k3, k4, k5, k6, k7⟩
   ·omega
   obtain ⟨m', rfl⟩ : ∃ m', m = m' + 1 := ⟨m - 1, by omega⟩
   obtain ⟨s1, s2, s3, s4, s5⟩ := Gm k4
   rw [Qf3, if_pos h5, List.cons_append, Qt]
   obtain ⟨o1, o2, o3⟩ := of0
   have hz : (((0 : UInt8).toNat : Nat) : Int) = 0 := rfl
   rw [hz, Q3p o1 o3, Qda, if_pos o2]
   have hr := Q5q (rd := Qt (Y8 m')) (e := Q0.byt) v.Items [] s (fun x hx t => (ih x hx m' (hf.items x hx) (by
    have := (k7 x hx).1
    rwa [show (((m' + 1 : Nat) : Int) - 1) = (m' : Int) by omega] at this) (by have := Qmb hx; omega)).2 t)
   rw [s4 h5, List.nil_append] at hr
   have hv : (⟨25, 0, [], v.Items⟩ : Q0) = v := by
    apply Q0.ext' <;> simp [h5, s1]
    exact (s3 (by omega)).symm
   unfold Qev
   rw [hr, if_neg (by simp), hv, if_neg (by simp)]
   simp only [Prod.mk.injEq, true_and, and_true]
   simp
  ·obtain ⟨g1, g2⟩ := Qex hf hc h5
   obtain ⟨d1, d2, d3⟩ := G3 _ _ g1
   rw [Qf3, if_neg h5, List.cons_append, Qt, Q2l (Q5r d1), hP v.cod d1 d3 h5 g2 s, if_neg (by simp)]
   simp
end
end Go.Av
namespace Go.Av
noncomputable section
open Go.Proofs
set_option maxRecDepth 100000
def Q2e (v : Q0) : Int := if nnS v = true then (if v.Kind = 11 then 2143289344 else 9221120237041090560) else v.N'
mutual
def Q0.nrm : Q0 → Q0
 | .mk k n t is => ⟨k, Q2e ⟨k, n, t, is⟩, t, Q0.nrms is⟩
def Q0.nrms : List Q0 → List Q0
 | [] => []
 | v :: l => v.nrm :: Q0.nrms l
end
theorem Qn3 : ∀ l, Q0.nrms l = l.map Q0.nrm
 | [] => rfl
 | v :: l => by rw [Q0.nrms, Qn3 l]; rfl
theorem Q66 (v : Q0) : v.nrm = ⟨v.Kind, Q2e v, v.Text, v.Items.map Q0.nrm⟩ := by cases v; rw [Q0.nrm, Qn3]
theorem Vb (v : Q0) : v.nrm.Kind = v.Kind := by rw [Q66]
theorem Q5i (v : Q0) : v.nrm.Text = v.Text := by rw [Q66]
theorem Wv (v : Q0) : v.nrm.Items = v.Items.map Q0.nrm := by rw [Q66]
theorem Q4f (v : Q0) : v.nrm.N' = Q2e v := by rw [Q66]
theorem Qvv (x : Int) : Q9 .neq x 0 = decide (x ≠ 0) := by rw [Bool.eq_iff_iff, Uk]; simp
theorem Q4m (v : Q0) : nnS v = ((decide (v.Kind = 11) && (decide (Q13 .u64 (Q1g .u64 v.N' 23) 255 = 255) && decide (Q0d .u64 v.N' 41 ≠ 0))) || (decide (v.Kind = 12) && (decide (Q13 .u64 (Q1g .u64 v.N' 52) 2047 = 2047) && decide (Q0d .u64 v.N' 12 ≠ 0)))) := by
 have h := Qsn 0 v
 unfold Zf at h
 simp only [Qa, Va] at h
 by_cases k1 : v.Kind = 11
 ·have k2 : ¬ v.Kind = 12 := by omega
  rw [if_pos k1] at h
  split at h
  ·rename_i h1
   simp only [Option.some.injEq] at h
   rw [← h]
   rw [Qvv]
   simp [k1, h1]
  ·rename_i h1
   simp only [Option.some.injEq] at h
   rw [← h]
   simp [k1, h1]
 ·rw [if_neg k1] at h
  by_cases k2 : v.Kind = 12
  ·rw [if_pos k2] at h
   split at h
   ·rename_i h1
    simp only [Option.some.injEq] at h
    rw [← h]
    rw [Qvv]
    simp [k2, h1]
   ·rename_i h1
    simp only [Option.some.injEq] at h
    rw [← h]
    simp [k2, h1]
  ·rw [if_neg k2] at h
   simp only [Option.some.injEq] at h
   rw [← h]
   simp [k1, k2]
theorem Q6c {v : Q0} (h : nnS v = true) : v.Kind = 11 ∨ v.Kind = 12 := by
 rw [Q4m] at h
 simp only [Bool.or_eq_true, Bool.and_eq_true, decide_eq_true_eq] at h
 omega
theorem Q98 {v w : Q0} (h1 : v.Kind = w.Kind) (h2 : v.N' = w.N') : nnS v = nnS w := by rw [Q4m, Q4m, h1, h2]
theorem Qcj (k : Int) (t : List UInt8) (is : List Q0) (h : k = 11 ∨ k = 12) : nnS ⟨k, if k = 11 then 2143289344 else 9221120237041090560, t, is⟩ = true := by
 rcases h with rfl | rfl
 ·exact (Q98 (w := ⟨11, 2143289344, [], []⟩) rfl rfl).trans (by rw [Q4m]; decide)
 ·exact (Q98 (w := ⟨12, 9221120237041090560, [], []⟩) rfl rfl).trans (by rw [Q4m]; decide)
theorem Qke {v : Q0} (h : nnS v = true) : Q2e v = if v.Kind = 11 then 2143289344 else 9221120237041090560 := by unfold Q2e; rw [if_pos h]
theorem Q8w {v : Q0} (h : nnS v = false) : Q2e v = v.N' := by unfold Q2e; rw [if_neg (by simp [h])]
theorem Qs7 (v : Q0) : nnS v.nrm = nnS v := by
 cases h : nnS v with
 | true =>
  have hk := Q6c h
  rw [Q66]
  unfold Q2e
  rw [if_pos h]
  exact Qcj _ _ _ hk
 | false =>
  rw [← h]
  refine Q98 (Vb v) ?_
  rw [Q4f]
  unfold Q2e
  rw [if_neg (by simp [h])]
theorem Q42 (v : Q0) : v.nrm.sz = v.sz := by
 induction v using Q0.ind with
 | h v ih =>
  have hl : ∀ l : List Q0, (∀ x ∈ l, x.nrm.sz = x.sz) → Q0.szs (l.map Q0.nrm) = Q0.szs l := by
   intro l
   induction l with
   | nil => intro _; rfl
   | cons x l ihl => intro h; simp only [List.map_cons, Q0.szs, h x (.head _), ihl (fun y hy => h y (.tail _ hy))]
  rw [Q0.sz_eq, Wv, hl _ ih, v.sz_eq]
theorem Qby (v : Q0) : v.nrm.wgt = v.wgt := by
 induction v using Q0.ind with
 | h v ih =>
  have hl : ∀ l : List Q0, (∀ x ∈ l, x.nrm.wgt = x.wgt) → Q0.wgts (l.map Q0.nrm) = Q0.wgts l := by
   intro l
   induction l with
   | nil => intro _; rfl
   | cons x l ihl => intro h; simp only [List.map_cons, Q0.wgts, h x (.head _), ihl (fun y hy => h y (.tail _ hy))]
  rw [Q0.wgt_eq, Wv, hl _ ih, v.wgt_eq, Q5i]
theorem Qnr {v : Q0} (h : okU v.N') : okU (Q2e v) := by
 unfold Q2e
 split
 ·split <;> exact ⟨by omega, by omega⟩
 ·exact h
theorem Q7x {v : Q0} (h : Fine v) : Fine v.nrm := by
 induction v using Q0.ind with
 | h v ih =>
  refine .mk _ (by rw [Q4f]; exact Qnr h.num) (by rw [Q5i]; exact h.text) (fun x hx => ?_)
  rw [Wv] at hx
  obtain ⟨y, hy, rfl⟩ := List.mem_map.1 hx
  exact ih y hy (h.items y hy)
theorem Q8y {v : Q0} (h : v.Kind ≠ 11 ∧ v.Kind ≠ 12) : Q2e v = v.N' := by
 unfold Q2e
 rw [if_neg (fun hn => by have := Q6c hn; omega)]
theorem Qdo : ∀ (n : Nat) (a b : Q0), a.sz ≤ n → Q3z a.nrm b.nrm = true → Q3z a b = true
 | 0, a, b, h, _ => by have := a.sz_eq; omega
 | n + 1, a, b, h, hh => by
  have hs := a.sz_eq
  rw [Qek] at hh ⊢
  simp only [Vb, Q5i, Wv, Q4f, Qs7, List.length_map, Bool.and_eq_true, Bool.or_eq_true, decide_eq_true_eq] at hh ⊢
  obtain ⟨h1, h2, h3, h4, h5⟩ := hh
  refine ⟨h1, h2, h3, ?_, ?_⟩
  ·rcases h4 with h4 | h4
   ·cases na : nnS a <;> cases nb : nnS b
    ·left; rw [Q8w na, Q8w nb] at h4; exact h4
    ·rw [Q8w na, Qke nb] at h4
     have hk := Q6c nb
     have : nnS a = true := by
      rw [← Qcj a.Kind [] [] (by omega)]
      refine Q98 rfl ?_
      show a.N' = _
      rw [h4, h1]
     rw [na] at this; cases this
    ·rw [Qke na, Q8w nb] at h4
     have hk := Q6c na
     have : nnS b = true := by
      rw [← Qcj b.Kind [] [] (by omega)]
      refine Q98 rfl ?_
      show b.N' = _
      rw [← h4, h1]
     rw [nb] at this; cases this
    ·right; exact ⟨rfl, rfl⟩
   ·right; exact h4
  ·have hl : ∀ (l m : List Q0), Q0.szs l ≤ n → Q39 (l.map Q0.nrm) (m.map Q0.nrm) = true → Q39 l m = true := by
    intro l
    induction l with
    | nil => intro m _ _; rfl
    | cons x l ihl =>
     intro m hz hm
     simp only [Q0.szs] at hz
     cases m with
     | nil => simp [Q39] at hm
     | cons y m =>
      simp only [List.map_cons, Q39, Bool.and_eq_true] at hm ⊢
      exact ⟨Qdo n x y (by omega) hm.1, ihl m (by omega) hm.2⟩
   exact hl _ _ (by omega) h5
theorem Qon {v : Q0} (h : Q2v v = 0) : Q2v v.nrm = 0 := by
 unfold Q2v at h ⊢
 rw [Vb]
 split
 ·rfl
 ·rename_i hk
  rw [if_neg hk] at h
  split at h
  ·cases h
  ·rename_i hne
   rw [if_neg]
   rintro ⟨i, j, h1, h2, h3, h4, h5, x, y, hx, hy, ha⟩
   rw [Wv, List.length_map] at h3
   rw [Wv, List.getElem?_map] at hx hy
   cases hxi : v.Items[i]? with
   | none => rw [hxi] at hx; cases hx
   | some x' =>
    cases hyi : v.Items[j]? with
    | none => rw [hyi] at hy; cases hy
    | some y' =>
     rw [hxi] at hx; rw [hyi] at hy
     cases hx; cases hy
     exact hne ⟨i, j, h1, h2, h3, h4, h5, x', y', hxi, hyi, Qdo _ x' y' (Nat.le_refl _) ha⟩
theorem Qlp {v : Q0} (h : Q9f v.Kind v.N' = true) : Q9f v.Kind (Q2e v) = true := by
 unfold Q2e
 split
 ·rename_i hn
  rcases Q6c hn with hk | hk <;> rw [hk] <;> decide
 ·exact h
theorem Qay {v : Q0} (h : Vn v = 0) : Vn v.nrm = 0 := by
 obtain ⟨c1, c2, c3, c4, c5, c6, c7⟩ := Vd h
 unfold Vn at h ⊢
 simp only [Vb, Q5i, Wv, Q4f, c4, List.map_nil] at h ⊢
 rw [Qlp c3]
 rw [c3] at h
 exact h
theorem Qiz {v : Q0} (hk : 22 ≤ v.Kind) (h : Js v = true) : Js v.nrm = true := by
 obtain ⟨s1, s2, s3, s4, s5⟩ := Gm h
 have : v.nrm = ⟨v.Kind, v.N', [], v.Items.map Q0.nrm⟩ := by rw [Q66, Q8y (by omega), s1]
 rw [this]
 exact Qec s2 s3 (fun h => by rw [List.length_map]; exact s4 h) (fun h => by rw [List.length_map]; exact s5 h)
theorem Q4x (v : Q0) : ∀ m : Int, Yh v m = 0 → Yh v.nrm m = 0 := by
 induction v using Q0.ind with
 | h v ih =>
  intro m h
  rcases U9 h with ⟨k1, k2, k3⟩ | ⟨k1, k2, k3, k4, k5, k6, k7⟩
  ·rw [Q1b, Vb, if_neg (by omega), if_neg (by omega), if_pos k2]
   exact Qay k3
  ·rw [Q1b, Vb, if_neg (by omega), if_neg (by omega), if_neg (by omega), if_neg k3, Qiz k1 k4, if_neg (by simp), Wv, List.length_map, if_neg (by omega), Qon k6, Q4f, Q8y (by omega)]
   refine Q6m _ _ _ _ (fun x hx => ?_)
   obtain ⟨y, hy, rfl⟩ := List.mem_map.1 hx
   refine ⟨ih y hy _ (k7 y hy).1, fun hk => ?_⟩
   rw [Vb]; exact (k7 y hy).2 hk
theorem Qmj {R : Q0 → Option Q0} {N : Nat} {v : Q0} {c : Int} (hb : v.sz < 1000000000) (hR : ∀ y ∈ v.Items, R y = some y.nrm) : ∀ (n i : Nat), i ≤ v.Items.length → v.Items.length - i < n →
  W9 R N v c n (i : Int) ((v.Items.take i).map Q0.nrm) = some ⟨v.Kind, c, v.Text, v.Items.map Q0.nrm⟩
 | 0, i, _, h => by omega
 | n + 1, i, hi, hn => by
  have hs := v.sz_eq
  have hl := Q0.szs_len v.Items
  simp only [W9, Qa, Vg, Zh, X4]
  by_cases h : i < v.Items.length
  ·rw [if_pos (by omega), List.getElem?_eq_getElem h]
   simp only [Option.bind_some, hR _ (List.getElem_mem h)]
   rw [if_pos (by rw [Nat.ble_eq, List.length_map, List.length_take]; omega), Qu _ (by omega)]
   have e : (v.Items.take i).map Q0.nrm ++ [v.Items[i].nrm] = (v.Items.take (i + 1)).map Q0.nrm := by
    rw [List.take_succ_eq_append_getElem h, List.map_append]; rfl
   rw [e]
   exact_mod_cast Qmj (N := N) hb hR n (i + 1) (by omega) (by omega)
  ·rw [if_neg (by omega), List.take_of_length_le (by omega)]
theorem Qbs : ∀ (N : Nat) (v : Q0), v.sz < N → v.sz < 1000000000 → Yr N v = some v.nrm
 | 0, v, h, _ => by omega
 | N + 1, v, h, h2 => by
  have hs := v.sz_eq
  have hl := Q0.szs_len v.Items
  have hL : ∀ c, Yo (Yr N) N v c = some ⟨v.Kind, c, v.Text, v.Items.map Q0.nrm⟩ := fun c =>
   Qmj (R := Yr N) (N := N) (v := v) h2 (fun y hy => Qbs N y (by have := Q0.szs_mem _ y hy; omega) (by have := Q0.szs_mem _ y hy; omega)) N 0 (by omega) (by omega)
  rw [Q66]
  show Ub (Yr N) N v = _
  simp only [Ub, W1, W5, hL, Qa, Va, Uk]
  have hd := Q4m v
  unfold Q2e
  by_cases k1 : v.Kind = 11
  ·have k2 : ¬ v.Kind = 12 := by omega
   simp only [k1, decide_true, Bool.true_and, show decide ((11 : Int) = 12) = false from rfl, Bool.false_and, Bool.or_false] at hd
   simp only [if_pos k1, if_neg k2]
   by_cases q1 : Q13 .u64 (Q1g .u64 v.N' 23) 255 = 255 <;> by_cases q2 : Q0d .u64 v.N' 41 ≠ 0 <;> simp [hd, q1, q2]
  ·simp only [if_neg k1]
   by_cases k2 : v.Kind = 12
   ·simp only [k2, show decide ((12 : Int) = 11) = false from rfl, decide_true, Bool.true_and, Bool.false_and, Bool.false_or] at hd
    simp only [if_pos k2]
    by_cases q1 : Q13 .u64 (Q1g .u64 v.N' 52) 2047 = 2047 <;> by_cases q2 : Q0d .u64 v.N' 12 ≠ 0 <;> simp [hd, q1, q2]
   ·simp only [k1, k2, decide_false, Bool.false_and, Bool.or_false] at hd
    simp [hd, k2]
end
end Go.Av
namespace Go.Av
noncomputable section
open Go.Proofs
set_option maxRecDepth 100000
theorem Qb4 {R : Q0 → Option Q0} {N : Nat} {v : Q0} (hb : v.sz < 1000000000) (hR : ∀ y ∈ v.Items, R y = some y) : ∀ (n i : Nat), i ≤ v.Items.length → v.Items.length - i < n → Zc R N v n (i : Int) (v.Items.take i) = some v
 | 0, i, _, h => by omega
 | n + 1, i, hi, hn => by
  have hs := v.sz_eq
  have hl := Q0.szs_len v.Items
  simp only [Zc, Qa, Vg, Zh, X4]
  by_cases h : i < v.Items.length
  ·rw [if_pos (by omega), List.getElem?_eq_getElem h]
   simp only [Option.bind_some, hR _ (List.getElem_mem h)]
   rw [if_pos (by rw [Nat.ble_eq, List.length_take]; omega), Qu _ (by omega), ← List.take_succ_eq_append_getElem h]
   exact_mod_cast Qb4 (N := N) hb hR n (i + 1) (by omega) (by omega)
  ·rw [if_neg (by omega), List.take_of_length_le (by omega)]
   cases v; rfl
theorem Qbb : ∀ (N : Nat) (v : Q0), v.sz < N → v.sz < 1000000000 → Y1 N v = some v
 | 0, v, h, _ => by omega
 | N + 1, v, h, h2 => by
  have hs := v.sz_eq
  have hl := Q0.szs_len v.Items
  have := Qb4 (R := Y1 N) (N := N) (v := v) h2 (fun y hy => Qbb N y (by have := Q0.szs_mem _ y hy; omega) (by have := Q0.szs_mem _ y hy; omega)) N 0 (by omega) (by omega)
  exact this
theorem Qb7 {R : Q0 → Option Q0} {N : Nat} {v w : Q0} {c : Int} (hb : v.sz < 1000000000) (hR : ∀ y ∈ v.Items, R y = some y.nrm) : ∀ (n i : Nat), i ≤ v.Items.length → v.Items.length - i < n →
  Ye R N v w c n (i : Int) ((v.Items.take i).map Q0.nrm ++ v.Items.drop i) = some ⟨w.Kind, c, w.Text, v.Items.map Q0.nrm⟩
 | 0, i, _, h => by omega
 | n + 1, i, hi, hn => by
  have hs := v.sz_eq
  have hl := Q0.szs_len v.Items
  have hlen : ((v.Items.take i).map Q0.nrm).length = i := by rw [List.length_map, List.length_take]; omega
  simp only [Ye, Qa, Vg, Zh, X4]
  by_cases h : i < v.Items.length
  ·rw [if_pos (by omega), List.getElem?_eq_getElem h]
   simp only [Option.bind_some, hR _ (List.getElem_mem h)]
   rw [List.getElem?_append_right (by omega), hlen, Nat.sub_self, List.drop_eq_getElem_cons h]
   simp only [List.getElem?_cons_zero, Option.bind_some, Int.toNat_natCast]
   rw [Qu _ (by omega), List.set_append_right _ _ (by omega), hlen, Nat.sub_self, List.set_cons_zero]
   have e : (v.Items.take i).map Q0.nrm ++ v.Items[i].nrm :: v.Items.drop (i + 1) = (v.Items.take (i + 1)).map Q0.nrm ++ v.Items.drop (i + 1) := by
    rw [List.take_succ_eq_append_getElem h, List.map_append, List.append_assoc]; rfl
   rw [e]
   exact_mod_cast Qb7 (N := N) hb hR n (i + 1) (by omega) (by omega)
  ·rw [if_neg (by omega), List.take_of_length_le (by omega), List.drop_of_length_le (by omega), List.append_nil]
theorem Qov {n : Int} (h : okU n) : ((Q13 .u64 n 2139095040 = 2139095040) = (Q13 .u64 (Q1g .u64 n 23) 255 = 255)) ∧ ((Q13 .u64 n 8388607 ≠ 0) = (Q0d .u64 n 41 ≠ 0)) ∧
  ((Q13 .u64 n 9218868437227405312 = 9218868437227405312) = (Q13 .u64 (Q1g .u64 n 52) 2047 = 2047)) ∧ ((Q13 .u64 n 4503599627370495 ≠ 0) = (Q0d .u64 n 12 ≠ 0)) := by
 obtain ⟨h0, h1⟩ := h
 obtain ⟨n, rfl⟩ := Int.eq_ofNat_of_zero_le h0
 have h1 : n < 18446744073709551616 := by omega
 have e1 := Qv8 n 8 23 h1 (by decide) (by decide) (by decide)
 have e2 := Qv8 n 11 52 h1 (by decide) (by decide) (by decide)
 rw [show ((2 ^ 8 - 1 : Nat) : Int) = 255 from rfl, show (((2 ^ 8 - 1) * 2 ^ 23 : Nat) : Int) = 2139095040 from rfl, show ((23 : Nat) : Int) = 23 from rfl] at e1
 rw [show ((2 ^ 11 - 1 : Nat) : Int) = 2047 from rfl, show (((2 ^ 11 - 1) * 2 ^ 52 : Nat) : Int) = 9218868437227405312 from rfl, show ((52 : Nat) : Int) = 52 from rfl] at e2
 exact ⟨e1.symm, Qtq n h1, e2.symm, Qu4 n h1⟩
theorem Qba : ∀ (N : Nat) (v : Q0), Fine v → v.sz + 1 < N → v.sz < 1000000000 → Y2 N v = some v.nrm
 | 0, v, _, h, _ => by omega
 | N + 1, v, hf, h, h2 => by
  have hs := v.sz_eq
  have hl := Q0.szs_len v.Items
  have hL : ∀ c, Ze (Y2 N) N v v c = some ⟨v.Kind, c, v.Text, v.Items.map Q0.nrm⟩ := fun c => by
   have := Qb7 (R := Y2 N) (N := N) (v := v) (w := v) (c := c) h2 (fun y hy => Qba N y (hf.items y hy) (by have := Q0.szs_mem _ y hy; omega) (by have := Q0.szs_mem _ y hy; omega)) N 0 (by omega) (by omega)
   simpa [Ze] using this
  rw [Q66]
  show Wg (Y2 N) N v = _
  obtain ⟨b1, b2, b3, b4⟩ := Qov hf.num
  simp only [Wg, Qbb N v (by omega) h2, Option.bind_some, Yf, Zq, Yg, hL, Qa, Va, Uk, b1, b2, b3, b4]
  have hd := Q4m v
  unfold Q2e
  by_cases k1 : v.Kind = 11
  ·have k2 : ¬ v.Kind = 12 := by omega
   simp only [k1, decide_true, Bool.true_and, show decide ((11 : Int) = 12) = false from rfl, Bool.false_and, Bool.or_false] at hd
   simp only [if_pos k1, if_neg k2]
   by_cases q1 : Q13 .u64 (Q1g .u64 v.N' 23) 255 = 255 <;> by_cases q2 : Q0d .u64 v.N' 41 ≠ 0 <;> simp [hd, q1, q2]
  ·simp only [if_neg k1]
   by_cases k2 : v.Kind = 12
   ·simp only [k2, show decide ((12 : Int) = 11) = false from rfl, decide_true, Bool.true_and, Bool.false_and, Bool.false_or] at hd
    simp only [if_pos k2]
    by_cases q1 : Q13 .u64 (Q1g .u64 v.N' 52) 2047 = 2047 <;> by_cases q2 : Q0d .u64 v.N' 12 ≠ 0 <;> simp [hd, q1, q2]
   ·simp only [k1, k2, decide_false, Bool.false_and, Bool.or_false] at hd
    simp [hd, k2]
end
end Go.Av
