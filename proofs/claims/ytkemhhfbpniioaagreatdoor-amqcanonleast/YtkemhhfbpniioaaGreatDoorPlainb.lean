/- The law. Part of a proof of a given statement: for every input the law returns true and the arguments read as before; no condition beyond the given row. -/
import Derived.Test.YtkemhhfbpniioaaGreatDoorPlain
import Derived.Test.YtkemhhfbpniioaaGreatDoorLiftF5
namespace Go.Av
noncomputable section
open Go.Proofs
set_option maxRecDepth 100000
def Qpx (k : Nat) : Bool := !(Xx k).2.2.2.2 || (if (Xx k).2.2.2.1 then decide (((Xx k).2.2.1 = 1 ∨ (Xx k).2.2.1 = 4) ∧ 22 ≤ (Xx k).2.1 ∧ (Xx k).2.1 ≤ 24) else decide ((Xx k).2.1 = 25 ∨ (Xx k).2.1 = 22))
theorem Qk0 : ((List.range 40).all Qpx) = true := by decide +kernel
theorem Qfx {P : Int × Int × Int × Bool × Bool → Prop} {B : Nat → Bool} (hB : ((List.range 40).all B) = true) (hP : ∀ k, B k = true → P (Xx k)) {code : Int} (h : ofB code = true) : P (ofT code) := by
 have h1 : bsI code < 40 ∧ Ur (bsI code) = code := by simpa [ofB] using h
 have := List.all_eq_true.1 hB (bsI code) (by simpa using h1.1)
 have e : ofT code = Xx (bsI code) := by unfold ofT; rw [if_pos h]
 rw [e]; exact hP _ this
theorem Wf {code : Int} (h : ofB code = true) (hi : (ofS code).Items = true) : ((ofS code).Sized = true → ((ofS code).Width = 1 ∨ (ofS code).Width = 4) ∧ 22 ≤ (ofS code).Kind ∧ (ofS code).Kind ≤ 24) ∧ ((ofS code).Sized = false → (ofS code).Kind = 25 ∨ (ofS code).Kind = 22) :=
 Qfx (P := fun t => t.2.2.2.2 = true → (t.2.2.2.1 = true → (t.2.2.1 = 1 ∨ t.2.2.1 = 4) ∧ 22 ≤ t.2.1 ∧ t.2.1 ≤ 24) ∧ (t.2.2.2.1 = false → t.2.1 = 25 ∨ t.2.1 = 22)) Qk0 (fun k hk h1 => by
  simp only [Qpx, h1, Bool.not_true, Bool.false_or] at hk
  refine ⟨fun h2 => ?_, fun h2 => ?_⟩
  ·rw [h2] at hk; simpa using hk
  ·rw [h2] at hk; simpa using hk) h hi
theorem Qkp {R : List UInt8 → Int → Option Rd} {N : Nat} {most : Int} {rd : List UInt8 → Rd} {text : List UInt8} (hm : 1 ≤ most ∧ most ≤ 32) (ht : text.length ≤ 600000) (hN : 100 < N) (hR : ∀ s, s.length ≤ text.length → R s (most - 1) = some (rd s)) (hg : Qln rd) :
  ∀ (n i at' : Nat) (l : List Q0), i ≤ 2 → 2 - i < n → at' ≤ text.length → l.length = i →
  Y4 R N most n (i : Int) text (at' : Int) 0 l = some (if (X9 rd (2 - i) (text.drop at') l).2 ≠ 0 then (Js, 0, (X9 rd (2 - i) (text.drop at') l).2) else (⟨25, 0, [], (X9 rd (2 - i) (text.drop at') l).1.1⟩, ((text.length - (X9 rd (2 - i) (text.drop at') l).1.2.length : Nat) : Int), 0))
 | 0, i, at', l, _, h, _, _ => by omega
 | n + 1, i, at', l, hi, hn, ha, hl => by
  simp only [Y4, Qa, Ve, Ww, U9, Qd0 N text at' 0 ha, Option.bind_some, Qv (most - 1) (show _ by omega), hR (text.drop at') (by rw [List.length_drop]; omega)]
  by_cases hic : i < 2
  ·rw [if_pos (by omega)]
   obtain ⟨k, hk⟩ : ∃ k, 2 - i = k + 1 := ⟨2 - i - 1, by omega⟩
   rw [hk, X9]
   have hgd := hg (text.drop at') (by rw [List.length_drop]; omega)
   generalize hr : rd (text.drop at') = r at hgd ⊢
   obtain ⟨x, m, e⟩ := r
   simp only [] at hgd ⊢
   by_cases he : e = 0
   ·subst he
    obtain ⟨g1, g2, g3⟩ := hgd rfl
    rw [List.length_drop] at g2
    obtain ⟨mm, rfl⟩ := Int.eq_ofNat_of_zero_le g1
    rw [if_pos rfl, Q2j N text at' mm (by unfold Q8j; omega) ha (by omega), if_pos (by omega)]
    simp only [Option.bind_some]
    rw [if_neg (by simp), if_pos (by simp [Nat.ble_eq]; omega), Qv _ (by omega), if_neg (show ¬ ((0 : Int) ≠ 0) by simp)]
    have ih := Qkp hm ht hN hR hg n (i + 1) (at' + mm) (l ++ [x]) (by omega) (by omega) (by omega) (by simp [hl])
    rw [show ((i : Int) + 1) = ((i + 1 : Nat) : Int) by push_cast; rfl, ih, show 2 - (i + 1) = k by omega, Q5m ha]
    simp only [Int.toNat_natCast]
   ·rw [if_neg he, if_pos (show e ≠ 0 from he), if_pos (show e ≠ 0 from he)]
    simp only []
    rw [if_pos (show e ≠ 0 from he)]; rfl
  ·rw [if_neg (by omega), show 2 - i = 0 by omega, X9]
   simp only [Qp, Option.bind_some]
   rw [if_neg (show ¬ ((0 : Int) ≠ 0) by simp), List.length_drop]
   congr 3
   omega
theorem Q8h {rd : List UInt8 → Rd} {lo : Nat} (hg : Qln rd) (hlo : ∀ s, s.length ≤ 600000 → (rd s).2.2 = 0 → (lo : Int) ≤ (rd s).2.1 ∧ (rd s).1.sz + 1000 * lo ≤ 1 + 1000 * (rd s).2.1.toNat) : ∀ (c : Nat) (s : List UInt8) (acc : List Q0), s.length ≤ 600000 → (X9 rd c s acc).2 = 0 →
  ∃ k, k ≤ s.length ∧ (X9 rd c s acc).1.2 = s.drop k ∧ Q0.szs (X9 rd c s acc).1.1 + 1000 * (lo * c) ≤ Q0.szs acc + c + 1000 * k ∧ (X9 rd c s acc).1.1.length = acc.length + c ∧ lo * c ≤ k
 | 0, s, acc, _, _ => ⟨0, by omega, by simp [X9], by simp [X9], by simp [X9], by simp⟩
 | c + 1, s, acc, hs, h => by
  rw [X9] at h ⊢
  split at h
  ·rename_i he; exact absurd h he
  ·rename_i he
   rw [if_neg he]
   obtain ⟨g0, g0'⟩ := hlo s hs (Classical.byContradiction he)
   obtain ⟨g1, g2, g3⟩ := hg s hs (Classical.byContradiction he)
   obtain ⟨k, k1, k2, k3, k4, k5⟩ := Q8h hg hlo c (s.drop (rd s).2.1.toNat) (acc ++ [(rd s).1]) (by rw [List.length_drop]; omega) h
   rw [List.length_drop] at k1
   refine ⟨(rd s).2.1.toNat + k, by omega, by rw [k2, List.drop_drop], ?_, by rw [k4]; simp; omega, by rw [Nat.mul_succ]; omega⟩
   rw [Q0.szs_app] at k3
   rw [Nat.mul_succ]
   simp only [Q0.szs] at k3
   omega
theorem Jt {data : Int → List UInt8 → Rd} (h : ∀ code, Qln (data code)) : Qln (Z8 data) ∧ ∀ s, s.length ≤ 600000 → (Z8 data s).2.2 = 0 → ((1 : Nat) : Int) ≤ (Z8 data s).2.1 ∧ (Z8 data s).1.sz + 1000 * 1 ≤ 1 + 1000 * (Z8 data s).2.1.toNat := by
 have key : ∀ s, s.length ≤ 600000 → (Z8 data s).2.2 = 0 → 1 ≤ (Z8 data s).2.1 ∧ (Z8 data s).2.1 ≤ s.length ∧ (Z8 data s).1.sz + 1000 * 1 ≤ 1 + 1000 * (Z8 data s).2.1.toNat := by
  intro s hs he
  cases s with
  | nil => simp [Z8] at he
  | cons b t =>
   simp only [Z8] at he ⊢
   split at he
   ·rename_i h1; exact absurd he h1
   ·rename_i h1
    rw [if_neg h1]
    simp only [List.length_cons] at hs ⊢
    obtain ⟨g1, g2, g3⟩ := h b.toNat t (by omega) (Classical.byContradiction h1)
    refine ⟨by omega, by push_cast; omega, ?_⟩
    have : ((data (b.toNat : Int) t).2.1 + 1).toNat = (data (b.toNat : Int) t).2.1.toNat + 1 := by omega
    rw [this]; omega
 exact ⟨fun s hs he => by obtain ⟨a, b, c⟩ := key s hs he; exact ⟨by omega, b, by omega⟩, fun s hs he => ⟨(key s hs he).1, (key s hs he).2.2⟩⟩
theorem Qgi {k num : Int} {q : (List Q0 × List UInt8) × Int} {tot : Nat} (h : (Q7p k num q tot).2.2 = 0) : q.2 = 0 ∧ q.1.2 = [] ∧ Q0y ⟨k, num, [], q.1.1⟩ = 0 ∧ Q7p k num q tot = (⟨k, num, [], q.1.1⟩, (tot : Int), 0) := by
 unfold Q7p at h ⊢
 split at h
 ·simp only [] at h
  split at h
  ·cases h
  ·rename_i h1 _; exact absurd h h1
 split at h
 ·cases h
 split at h
 ·rename_i h3; exact absurd h h3
 ·rename_i h1 h2 h3
  rw [if_neg h1, if_neg h2, if_neg h3]
  exact ⟨Classical.byContradiction h1, Classical.byContradiction h2, Classical.byContradiction h3, rfl⟩
theorem Qhi {data : Int → List UInt8 → Rd} {c : Qd} {s : List UInt8} (h : (Q13 data c s).2.2 = 0) : ∃ (body : List UInt8) (num : Int) (q : (List Q0 × List UInt8) × Int) (cnt : Nat) (rest : List UInt8), s.length ≥ c.Width.toNat + Jq (s.take c.Width.toNat) ∧ body = (s.drop c.Width.toNat).take (Jq (s.take c.Width.toNat)) ∧ c.Width.toNat ≤ body.length ∧ cnt ≤ 1000 ∧
  ((c.Kind ≠ 24 ∧ num = 0 ∧ rest = body.drop c.Width.toNat ∧ q = X9 (Z8 data) cnt rest []) ∨ (c.Kind = 24 ∧ ∃ b : UInt8, body.drop c.Width.toNat = b :: rest ∧ ofB (b.toNat : Int) = true ∧ b.toNat ≠ 0 ∧ num = (ofS (b.toNat : Int)).Kind ∧ q = X9 (data (b.toNat : Int)) cnt rest [])) ∧
  (c.Kind = 23 → cnt % 2 = 0) ∧ (Q7p c.Kind num q (c.Width.toNat + Jq (s.take c.Width.toNat))).2.2 = 0 ∧ Q13 data c s = Q7p c.Kind num q (c.Width.toNat + Jq (s.take c.Width.toNat)) := by
 unfold Q13 at h ⊢
 split at h
 ·cases h
 rename_i h1; rw [if_neg h1]
 split at h
 ·cases h
 rename_i h2; rw [if_neg h2]
 unfold Qj3 at h ⊢
 split at h
 ·cases h
 rename_i h3; rw [if_neg h3]
 split at h
 ·cases h
 rename_i h4; rw [if_neg h4]
 split at h
 ·cases h
 rename_i h5; rw [if_neg h5]
 split at h
 ·rename_i h6; rw [if_pos h6]
  cases hb : ((s.drop c.Width.toNat).take (Jq (s.take c.Width.toNat))).drop c.Width.toNat with
  | nil => rw [hb] at h; cases h
  | cons b rest =>
   rw [hb] at h
   simp only [Qrt] at h ⊢
   split at h
   ·cases h
   rename_i h7; rw [if_neg h7]
   refine ⟨_, _, _, _, rest, by omega, rfl, by omega, by omega, .inr ⟨h6, b, hb, ?_, ?_, rfl, rfl⟩, fun hk => by omega, h, rfl⟩
   ·cases ho : ofB (b.toNat : Int) with
    | true => rfl
    | false => exact absurd (.inl ho) h7
   ·exact fun ho => h7 (.inr ho)
 ·rename_i h6; rw [if_neg h6]
  exact ⟨_, _, _, _, _, by omega, rfl, by omega, by omega, .inl ⟨h6, rfl, rfl, rfl⟩, fun hk => by
   apply Classical.byContradiction
   intro hn; exact h5 ⟨hk, hn⟩, h, rfl⟩
theorem ar1 {z lo c k r : Nat} (h : z + 1000 * (lo * c) ≤ 0 + c + 1000 * k) (hk : k ≤ r) (hc : c ≤ 1000) : z ≤ 1000 + 1000 * r := by omega
theorem Qe1 {code : Int} {s : List UInt8} (hs : s.length ≤ 600000) (h : (Q73 code s).2.2 = 0) : 0 ≤ (Q73 code s).2.1 ∧ (Q73 code s).2.1 ≤ s.length ∧ (Q73 code s).1.sz ≤ 1 + 1000 * (Q73 code s).2.1.toNat := by
 generalize hg : Q73 code s = g at h ⊢
 obtain ⟨x, n, e⟩ := g
 simp only at h
 subst h
 obtain ⟨h1, h2, h3, h4, h5, h6, h7⟩ := reads (by unfold Q8j; omega) hg
 refine ⟨h1, h2, ?_⟩
 rw [Q0.sz_eq, (U6 h5).2.2.2.1]
 simp only [Q0.szs]; omega
theorem Uw : ∀ (m : Nat) (code : Int), Qln (Ym m code) := by
 intro m
 induction m with
 | zero =>
  intro code s hs h
  rw [Ym] at h ⊢
  split at h
  ·cases h
  rename_i h1; rw [if_neg h1]
  split at h
  ·rename_i h2; rw [if_pos h2]; exact Qe1 hs h
  ·cases h
 | succ m ih =>
  intro code s hs h
  obtain ⟨hrd, hr1⟩ := Jt ih
  rw [Ym] at h ⊢
  split at h
  ·cases h
  rename_i h1; rw [if_neg h1]
  split at h
  ·rename_i h2; rw [if_pos h2]; exact Qe1 hs h
  rename_i h2; rw [if_neg h2]
  split at h
  ·rename_i h3; rw [if_pos h3]
   unfold Qc7 at h ⊢
   split at h
   ·rename_i h4; exact absurd h h4
   ·rename_i h4
    rw [if_neg h4]
    obtain ⟨k, k1, k2, k3, k4, k5⟩ := Q8h hrd hr1 2 s [] hs (Classical.byContradiction h4)
    simp only [k2, List.length_drop]
    refine ⟨by omega, by omega, ?_⟩
    rw [Q0.sz_eq]
    simp only [Q0.szs] at k3 ⊢
    omega
  rename_i h3; rw [if_neg h3]
  split at h
  ·rename_i h4; rw [if_pos h4]; simp only []; exact ⟨by omega, by omega, by rw [Q0.sz_eq]; simp [Q0.szs]⟩
  ·rename_i h4; rw [if_neg h4]
   obtain ⟨body, num, q, cnt, rest, p1, p2, p3, p4, p5, p6, p7, p8⟩ := Qhi h
   obtain ⟨f1, f2, f3, f4⟩ := Qgi p7
   rw [p8, f4]
   simp only []
   have hbl : body.length ≤ Jq (s.take (ofS code).Width.toNat) := by rw [p2, List.length_take]; omega
   have hq : Q0.szs q.1.1 ≤ 1000 + 1000 * rest.length ∧ rest.length ≤ body.length := by
    rcases p5 with ⟨_, _, e1, e2⟩ | ⟨_, b, e0, _, _, _, e2⟩
    ·have hrl : rest.length ≤ body.length := by rw [e1, List.length_drop]; omega
     have hbl2 : body.length ≤ s.length := by rw [p2, List.length_take, List.length_drop]; omega
     rw [e2] at f1 ⊢
     obtain ⟨k, k1, k2, k3, k4, k5⟩ := Q8h hrd hr1 cnt rest [] (by omega) f1
     simp only [Q0.szs] at k3
     exact ⟨ar1 k3 k1 p4, hrl⟩
    ·have hrl : rest.length ≤ body.length := by
      have := congrArg List.length e0
      rw [List.length_drop, List.length_cons] at this; omega
     have hbl2 : body.length ≤ s.length := by rw [p2, List.length_take, List.length_drop]; omega
     rw [e2] at f1 ⊢
     obtain ⟨k, k1, k2, k3, k4, k5⟩ := Q8h (lo := 0) (ih _) (fun s hs he => ⟨(ih _ s hs he).1, by have := (ih _ s hs he).2.2; omega⟩) cnt rest [] (by omega) f1
     simp only [Q0.szs] at k3
     exact ⟨ar1 k3 k1 p4, hrl⟩
   clear p5
   refine ⟨by omega, by omega, ?_⟩
   have hob : ofB code = true := by
    cases ho : ofB code with
    | true => rfl
    | false => exact absurd ho h1
   have hit : (ofS code).Items = true := by
    cases ho : (ofS code).Items with
    | true => rfl
    | false => exact absurd ho h2
   have hsz : (ofS code).Sized = true := by
    cases ho : (ofS code).Sized with
    | true => rfl
    | false => exact absurd ho h4
   have hw := ((Wf hob hit).1 hsz).1
   rw [Q0.sz_eq]
   simp only [Int.toNat_natCast]
   omega
end
end Go.Av
namespace Go.Av
noncomputable section
open Go.Proofs
set_option maxRecDepth 100000
theorem Qqu (N : Nat) (s : List UInt8) (i : Nat) (b : UInt8) (t : List UInt8) (h : s.drop i = b :: t) (hs : Q8j s) (hN : 10 < N) : Qt N ⟨s, i, 0⟩ 1 = some ((b.toNat : Int), ⟨s, ((i + 1 : Nat) : Int), 0⟩) := by
 have hl : i < s.length := by
  apply Classical.byContradiction
  intro hn
  rw [List.drop_of_length_le (by omega)] at h; cases h
 simp only [Qt]
 have := Q2j N s i 1 hs (by omega) (by omega)
 rw [show ((1 : Nat) : Int) = 1 from rfl] at this
 rw [this, if_pos (by omega), h]
 simp only [Option.bind_some, List.take_succ_cons, List.take_zero]
 rw [Qg9 N [b] (by simp) hN]
 simp [Jq]
theorem Qt8 (n : Nat) : ((n : Int).tmod 2 ≠ 0) = (n % 2 ≠ 0) := by
 apply propext
 rw [Int.tmod_eq_emod_of_nonneg (by omega)]
 omega
theorem Qk3 (m : Nat) (h : m ≤ 32) : Q4i (m : Int) = true := decide_eq_true (by omega)
theorem Qss {R1 : List UInt8 → Int → Option Rd} {R2 : Int → List UInt8 → Int → Option Rd} {R3 : List UInt8 → Int → Option Rd} {R4 : Qd → List UInt8 → Int → Option Rd} {N m : Nat} {c : Qd} {s : List UInt8} {data : Int → List UInt8 → Rd}
  (hN : 700000000 < N) (hm : m + 1 ≤ 32) (hs : s.length ≤ 600000) (hw : c.Width = 1 ∨ c.Width = 4) (hg : ∀ code, Qln (data code))
  (h1 : ∀ t, t.length ≤ 600000 → R1 t (((m + 1 : Nat) : Int) - 1) = some (Z8 data t)) (h2 : ∀ code t, t.length ≤ 600000 → R2 code t (((m + 1 : Nat) : Int) - 1) = some (data code t)) :
  Vu R1 R2 R3 R4 N c s ((m + 1 : Nat) : Int) = some (Q13 data c s) := by
 obtain ⟨w, hw'⟩ : ∃ w : Nat, c.Width = w ∧ (w = 1 ∨ w = 4) := by
  rcases hw with h | h
  ·exact ⟨1, h, .inl rfl⟩
  ·exact ⟨4, h, .inr rfl⟩
 obtain ⟨hw1, hw2⟩ := hw'
 have hgr := (Jt hg).1
 have hsn : Q8j s := by unfold Q8j; omega
 simp only [Vu, hw1, Q5i N s w hsn (by omega) (by omega), Option.bind_some, Qj, Qa, U9, Q0h, Ww]
 unfold Q13
 rw [hw1, Int.toNat_natCast]
 by_cases hl : w ≤ s.length
 ·rw [if_pos hl]
  dsimp only
  rw [if_neg (show ¬ s.length < w by omega), if_neg (show ¬ ((0 : Int) ≠ 0) by simp), Q51 N s w 0 hl]
  simp only [Option.bind_some]
  have hlt := Q0k (s.take w)
  have h4 : 256 ^ (s.take w).length ≤ 256 ^ 4 := Nat.pow_le_pow_right (by omega) (by rw [List.length_take]; omega)
  have h5 : (256 : Nat) ^ 4 = 4294967296 := rfl
  generalize hn : Jq (s.take w) = n at *
  rw [Q78 _ (by omega)]
  by_cases h6 : s.length - w < n
  ·rw [if_pos (by omega), if_pos h6]; rfl
  rw [if_neg (by omega), if_neg h6, Qv _ (by omega), Q2j N s w n hsn hl (by omega), if_pos (by omega)]
  simp only [Option.bind_some]
  have hbl : ((s.drop w).take n).length = n := by rw [List.length_take, List.length_drop]; omega
  generalize hbody : (s.drop w).take n = body at *
  have hbn : Q8j body := by unfold Q8j; omega
  unfold Qj3
  rw [Q5i N body w hbn (by omega) (by omega)]
  simp only [Option.bind_some]
  by_cases h7 : w ≤ body.length
  ·rw [if_pos h7]
   dsimp only
   rw [if_neg (show ¬ body.length < w by omega), if_neg (show ¬ ((0 : Int) ≠ 0) by simp)]
   have hlt2 := Q0k (body.take w)
   generalize hcnt : Jq (body.take w) = cnt at *
   by_cases h8 : 1000 < cnt
   ·rw [if_pos (show (cnt : Int) > 1000 by omega), if_pos h8]; rfl
   rw [if_neg (show ¬ (cnt : Int) > 1000 by omega), if_neg h8]
   simp only [Qt8]
   have hm' : (1 : Int) ≤ ((m + 1 : Nat) : Int) ∧ ((m + 1 : Nat) : Int) ≤ 32 := by omega
   have arr : ∀ (L : (Int × Q3) → (Qd × Bool) → Option Rd), (∀ (b : UInt8) (t : List UInt8), body.drop w = b :: t → ofB (b.toNat : Int) = true → L ((b.toNat : Int), ⟨body, ((w + 1 : Nat) : Int), 0⟩) (ofS (b.toNat : Int), ofB (b.toNat : Int)) = some (Q7p c.Kind (ofS (b.toNat : Int)).Kind (X9 (data (b.toNat : Int)) cnt t []) (w + n))) →
     ((Z2 N ⟨body, (w : Int), 0⟩).bind fun v20 => if v20.1 = 0 then some ((⟨0, 0, [], []⟩ : Q0), (0 : Int), (5 : Int)) else (Qt N v20.2 1).bind fun v23 => (Z7 N (IntKind.i64.wrap v23.1)).bind fun v25 =>
      if (!v25.2) = true then some ((⟨0, 0, [], []⟩ : Q0), (0 : Int), (8 : Int)) else if IntKind.i64.wrap v23.1 = 0 then some ((⟨0, 0, [], []⟩ : Q0), (0 : Int), (8 : Int)) else L v23 v25) = some (Qrt data cnt (w + n) c.Kind (body.drop w)) := by
    intro L hL
    rw [Q51 N body w 0 h7]
    simp only [Option.bind_some]
    cases hd : body.drop w with
    | nil =>
     have : body.length - w = 0 := by
      have := congrArg List.length hd
      rw [List.length_drop] at this; simpa using this
     rw [if_pos (by omega)]; rfl
    | cons b t =>
     have : body.length - w ≠ 0 := by
      have := congrArg List.length hd
      rw [List.length_drop, List.length_cons] at this; omega
     rw [if_neg (by omega), Qqu N body w b t hd hbn (by omega)]
     simp only [Option.bind_some, Z7, Qjg, Qrt]
     cases ho : ofB (b.toNat : Int) with
     | false => rw [if_pos (by rfl), if_pos (.inl rfl)]; rfl
     | true =>
      rw [if_neg (by simp)]
      by_cases hb0 : b.toNat = 0
      ·rw [if_pos (by omega), if_pos (.inr hb0)]; rfl
      ·rw [if_neg (by omega), if_neg (by simp [hb0])]
       have := hL b t hd ho
       rw [ho] at this; exact this
   have hR1 : ∀ t : List UInt8, t.length ≤ body.length → R1 t (((m + 1 : Nat) : Int) - 1) = some (Z8 data t) := fun t ht => h1 t (by omega)
   have szb : Q0.szs ([] : List Q0) ≤ 0 + 1000 * w := by simp [Q0.szs]
   have szb1 : Q0.szs ([] : List Q0) ≤ 0 + 1000 * (w + 1) := by simp [Q0.szs]
   have kb : ∀ code : Int, ofB code = true → 0 ≤ (ofS code).Kind ∧ (ofS code).Kind ≤ 25 := fun code ho => by have := (Q5p code ho).kind; omega
   have dl : ∀ (b : UInt8) (t : List UInt8), body.drop w = b :: t → body.drop (w + 1) = t ∧ w + 1 ≤ body.length := fun b t hd => by
    refine ⟨by rw [← List.drop_drop, hd]; rfl, ?_⟩
    have := congrArg List.length hd
    rw [List.length_drop, List.length_cons] at this; omega
   by_cases h23 : c.Kind = 23
   ·rw [if_pos h23]
    by_cases h9 : cnt % 2 ≠ 0
    ·rw [if_pos h9, if_pos ⟨h23, h9⟩]; rfl
    ·rw [if_neg h9, if_neg (show ¬ (c.Kind = 23 ∧ cnt % 2 ≠ 0) from fun h => h9 h.2), if_neg (by omega), if_neg (show ¬ c.Kind = 24 by omega)]
     have := Q9s (R := R1) (N := N) (c := c) (v9 := (body, ⟨s, ((w + n : Nat) : Int), 0⟩)) (v11 := ((cnt : Int), ⟨body, (w : Int), 0⟩)) (rd := Z8 data) (text := body) (cnt := cnt) (tot := w + n) hm' (by omega) (by omega) rfl rfl hN hR1 hgr N 0 w [] (by omega) (by omega) h7 rfl szb
     rw [Nat.sub_zero] at this
     exact this
   ·rw [if_neg h23, if_neg (show ¬ (c.Kind = 23 ∧ cnt % 2 ≠ 0) from fun h => h23 h.1)]
    by_cases h24 : c.Kind = 24
    ·rw [if_pos h24, if_pos h24]
     refine arr (fun v23 v25 => Zu R1 R2 N c ((m + 1 : Nat) : Int) (body, ⟨s, ((w + n : Nat) : Int), 0⟩) ((cnt : Int), ⟨body, (w : Int), 0⟩) v23 v25 N 0 v23.2.text v23.2.at' v23.2.err []) (fun b t hd ho => ?_)
     obtain ⟨d1, d2⟩ := dl b t hd
     have := Qa1 (R := R1) (R2 := R2) (N := N) (c := c) (v9 := (body, ⟨s, ((w + n : Nat) : Int), 0⟩)) (v11 := ((cnt : Int), ⟨body, (w : Int), 0⟩)) (v23 := ((b.toNat : Int), ⟨body, ((w + 1 : Nat) : Int), 0⟩)) (v25 := (ofS (b.toNat : Int), ofB (b.toNat : Int))) (rd := data (b.toNat : Int)) (text := body) (cnt := cnt) (tot := w + n) (b := b) hm' (by omega) (by omega) rfl rfl rfl (kb _ ho) hN (fun t ht => h2 _ t (by omega)) (hg _) N 0 (w + 1) [] (by omega) (by omega) d2 rfl szb1
     rw [Nat.sub_zero, d1] at this
     exact this
    ·rw [if_neg h24, if_neg h24]
     have := Qad (R := R1) (N := N) (c := c) (v9 := (body, ⟨s, ((w + n : Nat) : Int), 0⟩)) (v11 := ((cnt : Int), ⟨body, (w : Int), 0⟩)) (rd := Z8 data) (text := body) (cnt := cnt) (tot := w + n) hm' (by omega) (by omega) rfl rfl hN hR1 hgr N 0 w [] (by omega) (by omega) h7 rfl szb
     rw [Nat.sub_zero] at this
     exact this
  ·rw [if_neg h7]
   dsimp only
   rw [if_pos (show body.length < w by omega), if_pos (show (3 : Int) ≠ 0 by decide)]; rfl
 ·rw [if_neg hl]
  dsimp only
  rw [if_pos (show s.length < w by omega), if_pos (show (3 : Int) ≠ 0 by decide)]; rfl
theorem Qt0 {m N : Nat} {s : List UInt8} (hm : m ≤ 32) (hs : s.length ≤ 600000) (h : ∀ code t, t.length ≤ s.length → Xh N code t (m : Int) = some (Ym m code t)) : Zc (N + 1) s (m : Int) = some (Z8 (Ym m) s) := by
 show W1 (Zc N) (Xh N) (X8 N) (V6 N) N s (m : Int) = _
 simp only [W1, Q49, Qk3 m hm, Option.bind_some, Qa, Bool.not_true, Bool.false_eq_true, if_false]
 cases s with
 | nil => rfl
 | cons b t =>
  rw [if_neg (by simp [Q22]), show idx (b :: t) 0 = some b from rfl]
  simp only [Option.bind_some]
  rw [if_pos (by simp [Nat.ble_eq]), List.take_length, Qjg]
  simp only [List.drop_succ_cons, List.drop_zero]
  rw [h _ t (by simp)]
  simp only [Option.bind_some, U9, Z8]
  by_cases he : (Ym m (b.toNat : Int) t).2.2 = 0
  ·rw [if_neg (by simp [he]), if_neg (by simp [he])]
   obtain ⟨g1, g2, g3⟩ := Uw m (b.toNat : Int) t (by simp at hs; omega) he
   rw [Qv _ (by simp at hs; omega)]
  ·rw [if_pos he, if_pos he]; rfl
theorem Qua : ∀ m : Nat, m ≤ 32 → ∀ N : Nat, 700000100 + 4 * m < N → ∀ (code : Int) (s : List UInt8), s.length ≤ 600000 → Xh N code s (m : Int) = some (Ym m code s) := by
 intro m
 induction m with
 | zero =>
  intro hm N hN code s hs
  obtain ⟨N, rfl⟩ : ∃ K, N = K + 1 := ⟨N - 1, by omega⟩
  show Vl (Zc N) (Xh N) (X8 N) (V6 N) N code s ((0 : Nat) : Int) = _
  simp only [Vl, Q49, Qk3 0 hm, Option.bind_some, Qa, Bool.not_true, Bool.false_eq_true, if_false, Z7, Ww, Ym]
  cases h1 : ofB code with
  | false => rfl
  | true =>
   simp only [Bool.not_true, Bool.false_eq_true, if_false, Bool.true_eq_false]
   cases h2 : (ofS code).Items with
   | false =>
    simp only [Bool.not_false, if_true]
    rw [Qq1 N code s (by unfold Q8j; omega) (by omega) (by omega)]; rfl
   | true => rfl
 | succ m ih =>
  intro hm N hN code s hs
  obtain ⟨N, rfl⟩ : ∃ K, N = K + 3 := ⟨N - 3, by omega⟩
  show Vl (Zc (N + 2)) (Xh (N + 2)) (X8 (N + 2)) (V6 (N + 2)) (N + 2) code s ((m + 1 : Nat) : Int) = _
  simp only [Vl, Q49, Qk3 (m + 1) hm, Option.bind_some, Qa, Bool.not_true, Bool.false_eq_true, if_false, Z7, Ww, Ym]
  cases h1 : ofB code with
  | false => rfl
  | true =>
   simp only [Bool.not_true, Bool.false_eq_true, if_false, Bool.true_eq_false]
   cases h2 : (ofS code).Items with
   | false =>
    simp only [Bool.not_false, if_true]
    rw [Qq1 (N + 2) code s (by unfold Q8j; omega) (by omega) (by omega)]; rfl
   | true =>
    simp only [Bool.not_true, Bool.false_eq_true, if_false, Bool.true_eq_false]
    rw [if_neg (show ¬ (((m + 1 : Nat) : Int) = 0) by omega)]
    have hR : ∀ t : List UInt8, t.length ≤ 600000 → Zc (N + 1) t (((m + 1 : Nat) : Int) - 1) = some (Z8 (Ym m) t) := fun t ht => by
     rw [show (((m + 1 : Nat) : Int) - 1) = (m : Int) by omega]
     exact Qt0 (by omega) ht (fun code u hu => ih (by omega) N (by omega) code u (by omega))
    have hD : ∀ (code : Int) (t : List UInt8), t.length ≤ 600000 → Xh (N + 1) code t (((m + 1 : Nat) : Int) - 1) = some (Ym m code t) := fun code t ht => by
     rw [show (((m + 1 : Nat) : Int) - 1) = (m : Int) by omega]
     exact ih (by omega) (N + 1) (by omega) code t ht
    by_cases h3 : (ofS code).Kind = 25
    ·rw [if_pos h3, if_pos h3]
     show (Vb (Zc (N + 1)) (Xh (N + 1)) (X8 (N + 1)) (V6 (N + 1)) (N + 1) s ((m + 1 : Nat) : Int)).bind _ = _
     simp only [Vb]
     have := Qkp (R := Zc (N + 1)) (N := N + 1) (most := ((m + 1 : Nat) : Int)) (rd := Z8 (Ym m)) (text := s) (by omega) (by omega) (by omega) (fun t ht => hR t (by omega)) (Jt (Uw m)).1 (N + 1) 0 0 [] (by omega) (by omega) (by omega) rfl
     rw [show ((0 : Nat) : Int) = 0 from rfl] at this
     rw [this]; rfl
    ·rw [if_neg h3, if_neg h3]
     cases h4 : (ofS code).Sized with
     | false => rfl
     | true =>
      simp only [Bool.not_true, Bool.false_eq_true, if_false, Bool.true_eq_false]
      show (Vu (Zc (N + 1)) (Xh (N + 1)) (X8 (N + 1)) (V6 (N + 1)) (N + 1) (ofS code) s ((m + 1 : Nat) : Int)).bind _ = _
      rw [Qss (m := m) (c := ofS code) (by omega) hm hs ((Wf h1 h2).1 h4).1 (Uw m) hR hD]; rfl
theorem Qpw (m N : Nat) (s : List UInt8) (hm : m ≤ 32) (hN : 700000200 + 4 * m < N) (hs : s.length ≤ 600000) : Zc N s (m : Int) = some (Z8 (Ym m) s) := by
 obtain ⟨N, rfl⟩ : ∃ K, N = K + 1 := ⟨N - 1, by omega⟩
 exact Qt0 hm hs (fun code t ht => Qua m hm N (by omega) code t (by omega))
end
end Go.Av
namespace Go.Av
noncomputable section
open Go.Proofs
set_option maxRecDepth 100000
theorem Qmf (n m k : Nat) : n &&& (m * 2 ^ k) = ((n / 2 ^ k) &&& m) * 2 ^ k := by
 apply Nat.eq_of_testBit_eq
 intro i
 rw [Nat.testBit_and, Nat.testBit_mul_two_pow, Nat.testBit_mul_two_pow, Nat.testBit_and, Nat.testBit_div_two_pow]
 by_cases h : k ≤ i
 ·simp [h]
 ·simp [h]
theorem Qqp (n k : Nat) (h : k ≤ 64) : Q2d .u64 (n : Int) (k : Int) = ((n / 2 ^ k : Nat) : Int) := by
 have e : min (k : Int).toNat IntKind.u64.bits = k := by simp [IntKind.bits]; omega
 simp only [Q2d, e]
 rw [Int.fdiv_eq_ediv_of_nonneg _ (by exact_mod_cast Nat.zero_le _)]
 push_cast; rfl
theorem Qv7 (n e k : Nat) (hn : n < 18446744073709551616) (hk : k ≤ 63) (he : (2 ^ e - 1) * 2 ^ k < 18446744073709551616) (he2 : 2 ^ e - 1 < 18446744073709551616) :
  (Q36 .u64 (Q2d .u64 (n : Int) (k : Int)) ((2 ^ e - 1 : Nat) : Int) = ((2 ^ e - 1 : Nat) : Int)) = (Q36 .u64 (n : Int) (((2 ^ e - 1) * 2 ^ k : Nat) : Int) = (((2 ^ e - 1) * 2 ^ k : Nat) : Int)) := by
 rw [Qqp n k (by omega), Q2h _ _ (Nat.lt_of_le_of_lt (Nat.div_le_self _ _) hn) he2, Q2h _ _ hn he, Qmf]
 apply propext
 have hp : 0 < 2 ^ k := Nat.two_pow_pos k
 constructor
 ·intro h
  have := Int.ofNat.inj h
  rw [this]
 ·intro h
  have := Nat.eq_of_mul_eq_mul_right hp (Int.ofNat.inj h)
  rw [this]
theorem Qub (n : Nat) (hn : n < 18446744073709551616) : (Q36 .u64 (n : Int) 8388607 ≠ 0) = (J8 .u64 (n : Int) 41 ≠ 0) := by
 have e : J8 .u64 (n : Int) 41 = ((n : Int) * 2199023255552) % 18446744073709551616 := by
  show IntKind.u64.wrap _ = _
  rw [Q5v]; rfl
 rw [show (8388607 : Int) = ((8388607 : Nat) : Int) from rfl, Q2h _ _ hn (by decide), e, show (8388607 : Nat) = 2 ^ 23 - 1 from rfl, Nat.and_two_pow_sub_one_eq_mod]
 apply propext; omega
theorem Quk (n : Nat) (hn : n < 18446744073709551616) : (Q36 .u64 (n : Int) 4503599627370495 ≠ 0) = (J8 .u64 (n : Int) 12 ≠ 0) := by
 have e : J8 .u64 (n : Int) 12 = ((n : Int) * 4096) % 18446744073709551616 := by
  show IntKind.u64.wrap _ = _
  rw [Q5v]; rfl
 rw [show (4503599627370495 : Int) = ((4503599627370495 : Nat) : Int) from rfl, Q2h _ _ hn (by decide), e, show (4503599627370495 : Nat) = 2 ^ 52 - 1 from rfl, Nat.and_two_pow_sub_one_eq_mod]
 apply propext; omega
theorem Qb1 (N : Nat) (v : Q0) (h : okU v.N') : W6 N v = some (nnS v) := by
 rw [← Qqs 0 v]
 obtain ⟨h0, h1⟩ := h
 obtain ⟨n, hn⟩ := Int.eq_ofNat_of_zero_le h0
 rw [hn] at h1
 have h1 : n < 18446744073709551616 := by omega
 have e1 := Qv7 n 8 23 h1 (by decide) (by decide) (by decide)
 have e2 := Qv7 n 11 52 h1 (by decide) (by decide) (by decide)
 rw [show ((2 ^ 8 - 1 : Nat) : Int) = 255 from rfl, show (((2 ^ 8 - 1) * 2 ^ 23 : Nat) : Int) = 2139095040 from rfl, show ((23 : Nat) : Int) = 23 from rfl] at e1
 rw [show ((2 ^ 11 - 1 : Nat) : Int) = 2047 from rfl, show (((2 ^ 11 - 1) * 2 ^ 52 : Nat) : Int) = 9218868437227405312 from rfl, show ((52 : Nat) : Int) = 52 from rfl] at e2
 have l1 : Q5 .neq (Q36 .u64 (n : Int) 8388607) 0 = Q5 .neq (J8 .u64 (n : Int) 41) 0 := by
  rw [Bool.eq_iff_iff, U9, U9, Qub n h1]
 have l2 : Q5 .neq (Q36 .u64 (n : Int) 4503599627370495) 0 = Q5 .neq (J8 .u64 (n : Int) 12) 0 := by
  rw [Bool.eq_iff_iff, U9, U9, Quk n h1]
 unfold W6 Zk
 simp only [hn, l1, l2, Qa, Ww, e1, e2]
 by_cases k1 : v.Kind = 11
 ·have k2 : ¬ v.Kind = 12 := by omega
  simp only [if_pos k1, if_neg k2]
  split
  ·split
   ·rename_i h; rw [h]
   ·rename_i h
    cases hc : Q5 .neq (J8 .u64 (n : Int) 41) 0 with
    | true => exact absurd hc h
    | false => rfl
  ·rfl
 ·simp only [if_neg k1]
theorem Q9j {R : Q0 → Q0 → Option Bool} {N : Nat} {a b : Q0} (hlen : a.Items.length = b.Items.length) (hb : a.Items.length < 4611686018427387904)
  (hR : ∀ y ∈ a.Items, ∀ z ∈ b.Items, R y z = some (Q1c y z)) : ∀ (n i : Nat), i ≤ a.Items.length → a.Items.length - i < n →
  Ye R N a b n (i : Int) = some (Q0t (a.Items.drop i) (b.Items.drop i)) ∧ Yi R N a b n (i : Int) = some (Q0t (a.Items.drop i) (b.Items.drop i))
 | 0, i, _, h => by omega
 | n + 1, i, h1, h2 => by
  simp only [Ye, Yi, Qa, Ve, Wd]
  by_cases hi : i < a.Items.length
  ·rw [if_pos (by omega), if_pos (by omega), Wo, Wo, List.getElem?_eq_getElem hi, List.getElem?_eq_getElem (show i < b.Items.length by omega)]
   simp only [Option.bind_some, hR _ (List.getElem_mem hi) _ (List.getElem_mem (show i < b.Items.length by omega))]
   rw [Qv _ (by omega)]
   obtain ⟨ih1, ih2⟩ := Q9j (N := N) hlen hb hR n (i + 1) (by omega) (by omega)
   rw [List.drop_eq_getElem_cons hi, List.drop_eq_getElem_cons (show i < b.Items.length by omega), Q0t]
   cases Q1c a.Items[i] b.Items[i] with
   | true =>
    simp only [Bool.not_true, Bool.false_eq_true, if_false, Bool.true_and]
    exact ⟨by exact_mod_cast ih1, by exact_mod_cast ih2⟩
   | false => simp
  ·rw [if_neg (by omega), if_neg (by omega), List.drop_of_length_le (by omega)]
   simp [Q0t]
theorem Qac : ∀ (N : Nat) (a b : Q0), Fine a → Fine b → a.sz < N → a.sz < 1000000000 → Yw N a b = some (Q1c a b)
 | 0, a, b, _, _, h, _ => by have := a.sz_eq; omega
 | N + 1, a, b, fa, fb, h, h2 => by
  have hs := a.sz_eq
  have hl := Q0.szs_len a.Items
  rw [Q91]
  simp only [Yw, Vx, Qa, U9, Q1d, Wd, Qb1 N a fa.num, Qb1 N b fb.num, Option.bind_some]
  by_cases e1 : a.Kind = b.Kind
  ·by_cases e3 : a.Text = b.Text
   ·by_cases e4 : a.Items.length = b.Items.length
    ·simp only [if_neg (show ¬ (a.Kind ≠ b.Kind) by simp [e1]), if_neg (show ¬ (a.Text ≠ b.Text) by simp [e3]), if_neg (show ¬ ((a.Items.length : Int) ≠ b.Items.length) by simp [e4])]
     obtain ⟨i1, i2⟩ := Q9j (N := N) (R := Yw N) e4 (by omega) (fun y hy z hz => Qac N y z (fa.items y hy) (fb.items z hz) (by have := Q0.szs_mem _ y hy; omega) (by have := Q0.szs_mem _ y hy; omega)) N 0 (by omega) (by omega)
     rw [show ((0 : Nat) : Int) = 0 from rfl] at i1 i2
     rw [i1, i2, List.drop_zero, List.drop_zero]
     simp only [e1, e3, e4, decide_true, Bool.true_and]
     by_cases e2 : a.N' = b.N'
     ·simp [e2]
     ·simp only [e2, ne_eq, not_false_eq_true, if_true, decide_false, Bool.false_or]
      cases nnS a <;> cases nnS b <;> simp
    ·simp only [if_neg (show ¬ (a.Kind ≠ b.Kind) by simp [e1]), if_neg (show ¬ (a.Text ≠ b.Text) by simp [e3]), if_pos (show ((a.Items.length : Int) ≠ b.Items.length) by omega)]
     simp [e4]
     repeat' split
     all_goals rfl
   ·simp only [if_neg (show ¬ (a.Kind ≠ b.Kind) by simp [e1]), if_pos (show (a.Text ≠ b.Text) from e3)]
    simp [e3]
    repeat' split
    all_goals rfl
  ·rw [if_pos (by simpa using e1)]
   simp [e1]
end
end Go.Av
namespace Go.Av
noncomputable section
open Go.Proofs
set_option maxRecDepth 100000
open Classical in
theorem Qht {N : Nat} {v : Q0} (hf : Fine v) (hb : v.sz < 1000000000) (hN : v.sz < N) {k0 : Int → Option Bool} {i : Nat} (hi : i < v.Items.length) (i2 : i % 2 = 0) : ∀ (n k : Nat), i - k < n → k % 2 = 0 → k ≤ i →
  Yh N k0 v.Items (i : Int) n (k : Int) = if ∃ j, k ≤ j ∧ j < i ∧ j % 2 = 0 ∧ AL v i j then some true else k0 ((i + 2 : Nat) : Int)
 | 0, k, h, _, _ => by omega
 | n + 1, k, h, hk, hki => by
  have hs := v.sz_eq
  have hl := Q0.szs_len v.Items
  simp only [Yh, Qa, Ve, Wo]
  by_cases hlt : k < i
  ·rw [if_pos (by omega), List.getElem?_eq_getElem hi, List.getElem?_eq_getElem (show k < v.Items.length by omega)]
   simp only [Option.bind_some]
   have hsz := Q0.szs_mem _ _ (List.getElem_mem hi)
   rw [Qac N _ _ (hf.items _ (List.getElem_mem hi)) (hf.items _ (List.getElem_mem (show k < v.Items.length by omega))) (by omega) (by omega)]
   simp only [Option.bind_some]
   cases hal : Q1c v.Items[i] v.Items[k] with
   | true =>
    rw [if_pos rfl, if_pos ⟨k, Nat.le_refl _, hlt, hk, _, _, List.getElem?_eq_getElem hi, List.getElem?_eq_getElem (by omega), hal⟩]
   | false =>
    rw [if_neg (by simp), Qv _ (by omega)]
    have := Qht (k0 := k0) hf hb hN hi i2 n (k + 2) (by omega) (by omega) (by omega)
    rw [show ((k : Int) + 2) = ((k + 2 : Nat) : Int) by push_cast; rfl, this]
    by_cases hx : ∃ j, k + 2 ≤ j ∧ j < i ∧ j % 2 = 0 ∧ AL v i j
    ·rw [if_pos hx]
     obtain ⟨j, j1, j2, j3, j4⟩ := hx
     rw [if_pos ⟨j, by omega, j2, j3, j4⟩]
    ·rw [if_neg hx, if_neg]
     rintro ⟨j, j1, j2, j3, j4⟩
     by_cases hjk : j = k
     ·subst hjk
      obtain ⟨x, y, x1, y1, z1⟩ := j4
      rw [List.getElem?_eq_getElem hi] at x1
      rw [List.getElem?_eq_getElem (by omega)] at y1
      cases x1; cases y1
      rw [hal] at z1; cases z1
     ·exact hx ⟨j, by omega, j2, j3, j4⟩
  ·rw [if_neg (by omega), Qv _ (by omega), if_neg (by rintro ⟨j, j1, j2, _⟩; omega)]
   push_cast; rfl
open Classical in
theorem Qgw {N : Nat} {v : Q0} (hf : Fine v) (hb : v.sz < 1000000000) (hN : v.sz < N) : ∀ (n i : Nat), v.Items.length - i < n → i % 2 = 0 → i ≤ v.Items.length + 2 →
  Zm N v.Items n (i : Int) = some (if ∃ i' j, i ≤ i' ∧ i' % 2 = 0 ∧ i' < v.Items.length ∧ j < i' ∧ j % 2 = 0 ∧ AL v i' j then true else false)
 | 0, i, h, _, _ => by omega
 | n + 1, i, h, hi, hle => by
  have hs := v.sz_eq
  have hl := Q0.szs_len v.Items
  simp only [Zm, Qa, Ve, Wd]
  by_cases hlt : i < v.Items.length
  ·rw [if_pos (by omega)]
   have h1 := Qht (N := N) (k0 := Zm N v.Items n) hf hb hN hlt hi N 0 (by omega) (by omega) (by omega)
   rw [show ((0 : Nat) : Int) = 0 from rfl] at h1
   rw [h1]
   by_cases hx : ∃ j, 0 ≤ j ∧ j < i ∧ j % 2 = 0 ∧ AL v i j
   ·rw [if_pos hx]
    obtain ⟨j, _, j2, j3, j4⟩ := hx
    rw [if_pos ⟨i, j, Nat.le_refl _, hi, hlt, j2, j3, j4⟩]
   ·rw [if_neg hx, Qgw hf hb hN n (i + 2) (by omega) (by omega) (by omega)]
    by_cases hy : ∃ i' j, i + 2 ≤ i' ∧ i' % 2 = 0 ∧ i' < v.Items.length ∧ j < i' ∧ j % 2 = 0 ∧ AL v i' j
    ·rw [if_pos hy]
     obtain ⟨i', j, a1, a2, a3⟩ := hy
     rw [if_pos ⟨i', j, by omega, a2, a3⟩]
    ·rw [if_neg hy, if_neg]
     rintro ⟨i', j, a1, a2, a3, a4, a5, a6⟩
     by_cases he : i' = i
     ·subst he; exact hx ⟨j, by omega, a4, a5, a6⟩
     ·exact hy ⟨i', j, by omega, a2, a3, a4, a5, a6⟩
  ·rw [if_neg (by omega), if_neg]
   rintro ⟨i', j, a1, a2, a3, _⟩; omega
theorem Qnu (v : Q0) : Q0y v = 0 ∨ Q0y v = 16 := by
 unfold Q0y
 split
 ·exact .inl rfl
 ·split
  ·exact .inr rfl
  ·exact .inl rfl
open Classical in
theorem Qnn (N : Nat) (v : Q0) (hf : Fine v) (hk : v.Kind = 23) (hb : v.sz < 1000000000) (hN : v.sz + 5 < N) : Yv N v.Items = some (decide (Q0y v = 16)) := by
 have hs := v.sz_eq
 have hl := Q0.szs_len v.Items
 have h0 := Qgw hf hb (show v.sz < N by omega) N 0 (by omega) (by omega) (by omega)
 rw [show ((0 : Nat) : Int) = 0 from rfl] at h0
 unfold Yv
 rw [h0]
 have hkey : Q0y v = 16 ↔ ∃ i j, 2 ≤ i ∧ i % 2 = 0 ∧ i < v.Items.length ∧ j < i ∧ j % 2 = 0 ∧ AL v i j := by
  unfold Q0y
  rw [if_neg (fun h => h hk)]
  split
  ·rename_i hx; exact ⟨fun _ => hx, fun _ => rfl⟩
  ·rename_i hx; exact ⟨fun h => (by cases h), fun h => absurd h hx⟩
 by_cases hx : ∃ i' j, 0 ≤ i' ∧ i' % 2 = 0 ∧ i' < v.Items.length ∧ j < i' ∧ j % 2 = 0 ∧ AL v i' j
 ·rw [if_pos hx]
  obtain ⟨i, j, a1, a2, a3, a4, a5, a6⟩ := hx
  rw [decide_eq_true (hkey.2 ⟨i, j, by omega, a2, a3, a4, a5, a6⟩)]
 ·rw [if_neg hx, decide_eq_false]
  rw [hkey]
  rintro ⟨i, j, a1, a2, a3, a4, a5, a6⟩
  exact hx ⟨i, j, by omega, a2, a3, a4, a5, a6⟩
end
end Go.Av
namespace Go.Av
noncomputable section
open Go.Proofs
set_option maxRecDepth 100000
def Qqb (k : Nat) : Bool := !(decide ((Xx k).2.1 = 25)) || decide ((Xx k).1 = 0)
theorem Qka : ((List.range 40).all Qqb) = true := by decide +kernel
theorem Qsx {code : Int} (h : ofB code = true) (hk : (ofS code).Kind = 25) : code = 0 := by
 have := Qfx (P := fun t => t.2.1 = 25 → t.1 = 0) Qka (fun k hk h1 => by simpa [Qqb, h1] using hk) h hk
 rw [← (Q5p code h).code]; exact this
theorem Qdk {d : Int → List UInt8 → Rd} (s : List UInt8) (h : (Z8 d s).2.2 ≠ 0) : (Z8 d s).1 = Js ∧ (Z8 d s).2.1 = 0 := by
 cases s with
 | nil => exact ⟨rfl, rfl⟩
 | cons b u =>
  simp only [Z8] at h ⊢
  split at h
  ·rename_i h1; rw [if_pos h1]; exact ⟨rfl, rfl⟩
  ·exact absurd rfl h
theorem Q87 {d : Int → List UInt8 → Rd} {s : List UInt8} (he : (Z8 d s).2.2 = 0) : ∃ b u, s = b :: u ∧ (d (b.toNat : Int) u).2.2 = 0 ∧ Z8 d s = ((d (b.toNat : Int) u).1, (d (b.toNat : Int) u).2.1 + 1, 0) := by
 cases s with
 | nil => simp [Z8] at he
 | cons b u =>
  have h1 : (d (b.toNat : Int) u).2.2 = 0 := by
   simp only [Z8] at he
   split at he
   ·rename_i h1; exact absurd he h1
   ·rename_i h1; exact Classical.byContradiction h1
  refine ⟨b, u, rfl, h1, ?_⟩
  simp only [Z8]; rw [if_neg (by simp [h1])]
noncomputable def Qes (d : Int → List UInt8 → Rd) (code : Int) (s : List UInt8) : Rd := if (ofS code).Kind = 25 then Qc7 (Z8 d) s else if (ofS code).Sized = false then (⟨(ofS code).Kind, 0, [], []⟩, 0, 0) else Q13 d (ofS code) s
theorem Q3m {code : Int} (h1 : ofB code = true) (h2 : (ofS code).Items = false) (m : Nat) (s : List UInt8) : Ym m code s = Q73 code s := by
 cases m <;> simp only [Ym, h1, h2, if_true, if_false, Bool.true_eq_false]
theorem Q4b {code : Int} (h1 : ofB code = true) (h2 : (ofS code).Items = true) (m : Nat) (s : List UInt8) : Ym (m + 1) code s = Qes (Ym m) code s := by
 simp only [Ym, h1, h2, if_false, Bool.true_eq_false]; rfl
theorem Q8f {m : Nat} {code : Int} {s : List UInt8} (he : (Ym m code s).2.2 = 0) : ofB code = true ∧ ((ofS code).Items = false ∨ (ofS code).Items = true ∧ ∃ k, m = k + 1) := by
 have h1 : ofB code = true := by
  cases h : ofB code with
  | true => rfl
  | false => cases m <;> simp [Ym, h] at he
 refine ⟨h1, ?_⟩
 cases h2 : (ofS code).Items with
 | false => exact .inl rfl
 | true =>
  cases m with
  | zero => simp [Ym, h1, h2] at he
  | succ m => exact .inr ⟨rfl, m, rfl⟩
theorem Q2m {rd : List UInt8 → Rd} {P : Q0 → Prop} (hP : ∀ s, s.length ≤ 300000 → (rd s).2.2 = 0 → P (rd s).1) : ∀ (c : Nat) (s : List UInt8) (acc : List Q0), s.length ≤ 300000 → (∀ x ∈ acc, P x) → (X9 rd c s acc).2 = 0 → (∀ x ∈ (X9 rd c s acc).1.1, P x) ∧ (X9 rd c s acc).1.1.length = acc.length + c
 | 0, s, acc, _, ha, _ => ⟨by simpa [X9] using ha, by simp [X9]⟩
 | c + 1, s, acc, hs, ha, h => by
  rw [X9] at h ⊢
  split at h
  ·rename_i he; exact absurd h he
  ·rename_i he
   rw [if_neg he]
   have := Q2m hP c (s.drop (rd s).2.1.toNat) (acc ++ [(rd s).1]) (by rw [List.length_drop]; omega) (fun x hx => by
    rcases List.mem_append.1 hx with hx | hx
    ·exact ha x hx
    ·rw [List.mem_singleton.1 hx]; exact hP s hs (Classical.byContradiction he)) h
   refine ⟨this.1, ?_⟩
   rw [this.2, List.length_append, List.length_singleton]; omega
theorem Q6o : ∀ (l : List Q0) (k n m : Int), (∀ x ∈ l, Yq x m = 0 ∧ (k = 24 → IntKind.u64.wrap x.Kind = n)) → Gv l k n m 0 = 0
 | [], _, _, _, _ => by rw [Gv]
 | x :: l, k, n, m, h => by
  obtain ⟨h1, h2⟩ := h x (by simp)
  rw [Gv, if_neg (fun hh => hh.2 (h2 hh.1)), if_neg (by simp [h1])]
  exact Q6o l k n m (fun y hy => h y (by simp [hy]))
theorem Qem {k n : Int} {l : List Q0} (h24 : k = 24 → 1 ≤ n ∧ n ≤ 24) (h0 : k ≠ 24 → n = 0) (h25 : k = 25 → l.length = 2) (h23 : k = 23 → l.length % 2 = 0) : Gf ⟨k, n, [], l⟩ = true := by
 unfold Gf Q76
 simp only [Qa, Q1d, Ww, U9, Q8r, Wd]
 rw [if_neg (by simp)]
 by_cases e : k = 24
 ·rw [if_pos e, if_pos (h24 e).1]
  have := (h24 e).2
  simp [Q6g]; exact this
 ·rw [if_neg e, if_neg (by simp [h0 e])]
  by_cases e5 : k = 25
  ·rw [if_pos e5]
   simp [Ww, h25 e5]
  ·rw [if_neg e5]
   by_cases e3 : k = 23
   ·rw [if_pos e3]
    have := h23 e3
    simp [Ww, Int.tmod_eq_emod_of_nonneg]; omega
   ·rw [if_neg e3]; rfl
theorem Q8w {k n : Int} {l : List Q0} (h : k ≠ 23) : Q0y ⟨k, n, [], l⟩ = 0 := by
 unfold Q0y
 rw [if_pos h]
theorem Q48 {k n : Int} {l : List Q0} {m : Nat} (hk : 22 ≤ k ∧ k ≤ 25) (hl : l.length ≤ 1000) (hit : ∀ x ∈ l, Fine x ∧ Yq x m = 0 ∧ (k = 24 → IntKind.u64.wrap x.Kind = n)) (hkeys : Q0y ⟨k, n, [], l⟩ = 0)
  (h24 : k = 24 → 1 ≤ n ∧ n ≤ 24) (h0 : k ≠ 24 → n = 0) (h25 : k = 25 → l.length = 2) (h23 : k = 23 → l.length % 2 = 0) : Fine ⟨k, n, [], l⟩ ∧ Yq ⟨k, n, [], l⟩ ((m + 1 : Nat) : Int) = 0 := by
 refine ⟨.mk _ ?_ (by simp) (fun x hx => (hit x hx).1), ?_⟩
 ·by_cases h : k = 24
  ·have := h24 h; exact ⟨by simp only []; omega, by simp only []; omega⟩
  ·have := h0 h; exact ⟨by simp only []; omega, by simp only []; omega⟩
 ·rw [Q1u]
  simp only [hkeys, Qem h24 h0 h25 h23]
  rw [if_neg (by omega), if_neg (by omega), if_neg (by omega), if_neg (by omega), if_neg (by simp), if_neg (by omega), show (((m + 1 : Nat) : Int) - 1) = (m : Int) by omega]
  exact Q6o _ _ _ _ (fun x hx => (hit x hx).2)
theorem Q7g {code : Int} {s : List UInt8} (m : Int) (hs : s.length ≤ 300000) (h : (Q73 code s).2.2 = 0) : Fine (Q73 code s).1 ∧ Yq (Q73 code s).1 m = 0 ∧ (Q73 code s).1.Kind = (ofS code).Kind := by
 generalize hg : Q73 code s = g at h ⊢
 obtain ⟨x, n, e⟩ := g
 simp only at h
 subst h
 obtain ⟨h1, h2, h3, h4, h5, h6, h7⟩ := reads (by unfold Q8j; omega) hg
 obtain ⟨c1, c2, c3, c4, _⟩ := U6 h5
 show Fine x ∧ Yq x m = 0 ∧ x.Kind = (ofS code).Kind
 refine ⟨.mk _ h3 (by omega) (by simp [c4]), ?_, (Gi h6).2.1.symm⟩
 rw [Q1u, if_neg (by omega), if_neg (by omega), if_pos (by omega)]; exact h5
theorem Q1p : ∀ (m : Nat) (code : Int) (s : List UInt8), s.length ≤ 300000 → (Ym m code s).2.2 = 0 → Fine (Ym m code s).1 ∧ Yq (Ym m code s).1 m = 0 ∧ (Ym m code s).1.Kind = (ofS code).Kind := by
 intro m
 induction m with
 | zero =>
  intro code s hs he
  obtain ⟨h1, h2 | ⟨h2, k, hk⟩⟩ := Q8f he
  ·rw [Q3m h1 h2] at he ⊢
   exact Q7g _ hs he
  ·omega
 | succ m ih =>
  intro code s hs he
  obtain ⟨h1, h2 | ⟨h2, k, hk⟩⟩ := Q8f he
  ·rw [Q3m h1 h2] at he ⊢
   exact Q7g _ hs he
  rw [Q4b h1 h2] at he ⊢
  have hsh := Wf h1 h2
  have hrd : ∀ s : List UInt8, s.length ≤ 300000 → (Z8 (Ym m) s).2.2 = 0 → Fine (Z8 (Ym m) s).1 ∧ Yq (Z8 (Ym m) s).1 m = 0 := fun s hs he => by
   obtain ⟨b, u, rfl, e1, e2⟩ := Q87 he
   have := ih b.toNat u (by simp at hs; omega) e1
   rw [e2]; exact ⟨this.1, this.2.1⟩
  unfold Qes at he ⊢
  by_cases k25 : (ofS code).Kind = 25
  ·rw [if_pos k25] at he ⊢
   have e1 : (X9 (Z8 (Ym m)) 2 s []).2 = 0 := by
    unfold Qc7 at he
    split at he
    ·exact he
    ·rename_i h1; exact Classical.byContradiction h1
   obtain ⟨i1, i2⟩ := Q2m (P := fun x => Fine x ∧ Yq x m = 0) hrd 2 s [] hs (by simp) e1
   unfold Qc7
   rw [if_neg (by simp [e1]), k25]
   simp only []
   have hl2 : (X9 (Z8 (Ym m)) 2 s []).1.1.length = 2 := by simpa using i2
   have := Q48 (k := 25) (n := 0) (l := (X9 (Z8 (Ym m)) 2 s []).1.1) (m := m) (by omega) (by omega) (fun x hx => ⟨(i1 x hx).1, (i1 x hx).2, fun h => by omega⟩) (Q8w (by omega)) (by omega) (fun _ => rfl) (fun _ => hl2) (by omega)
   exact ⟨this.1, this.2, trivial⟩
  rw [if_neg k25] at he ⊢
  by_cases hsz : (ofS code).Sized = false
  ·rw [if_pos hsz] at he ⊢
   have hk : (ofS code).Kind = 22 := by have := hsh.2 hsz; omega
   rw [hk]
   have := Q48 (k := 22) (n := 0) (l := []) (m := m) (by omega) (by simp) (by simp) (Q8w (by omega)) (by omega) (fun _ => rfl) (by omega) (by omega)
   exact ⟨this.1, this.2, rfl⟩
  rw [if_neg hsz] at he ⊢
  have hsz : (ofS code).Sized = true := by
   cases h : (ofS code).Sized with
   | true => rfl
   | false => exact absurd h hsz
  obtain ⟨body, num, q, cnt, rest, p1, p2, p3, p4, p5, p6, p7, p8⟩ := Qhi he
  obtain ⟨f1, f2, f3, f4⟩ := Qgi p7
  rw [p8, f4]
  have hk := (hsh.1 hsz).2
  have hbl2 : body.length ≤ s.length := by
   rw [p2]
   exact Nat.le_trans (List.length_take_le' _ _) (by rw [List.length_drop]; exact Nat.sub_le _ _)
  rcases p5 with ⟨q0, q1, q2, q3⟩ | ⟨q0, b, q1, q2, q3, q4, q5⟩
  ·have hrl : rest.length ≤ body.length := by rw [q2, List.length_drop]; omega
   rw [q3] at f1
   obtain ⟨i1, i2⟩ := Q2m (P := fun x => Fine x ∧ Yq x m = 0) hrd cnt rest [] (by omega) (by simp) f1
   rw [← q3] at i1 i2
   have hlc : q.1.1.length = cnt := by simpa using i2
   have := Q48 (k := (ofS code).Kind) (n := num) (l := q.1.1) (m := m) (by omega) (by omega) (fun x hx => ⟨(i1 x hx).1, (i1 x hx).2, fun h => absurd h q0⟩) f3 (fun h => absurd h q0) (fun _ => q1) (by omega) (fun h => by rw [hlc]; exact p6 h)
   exact ⟨this.1, this.2, rfl⟩
  ·have hrl : rest.length ≤ body.length := by
    have := congrArg List.length q1
    rw [List.length_drop, List.length_cons] at this; omega
   rw [q5] at f1
   obtain ⟨i1, i2⟩ := Q2m (P := fun x => Fine x ∧ Yq x m = 0 ∧ x.Kind = (ofS (b.toNat : Int)).Kind) (ih (b.toNat : Int)) cnt rest [] (by omega) (by simp) f1
   rw [← q5] at i1 i2
   have hlc : q.1.1.length = cnt := by simpa using i2
   have hbk := (Q5p _ q2).kind
   have hb25 : (ofS (b.toNat : Int)).Kind ≠ 25 := fun h => q3 (by have := Qsx q2 h; omega)
   have := Q48 (k := (ofS code).Kind) (n := num) (l := q.1.1) (m := m) (by omega) (by omega) (fun x hx => ⟨(i1 x hx).1, (i1 x hx).2.1, fun _ => by rw [(i1 x hx).2.2, q4, Q5v]; omega⟩) f3 (fun _ => by rw [q4]; omega) (fun h => absurd q0 h) (by omega) (by omega)
   exact ⟨this.1, this.2, rfl⟩
end
end Go.Av
namespace Go.Av
noncomputable section
open Go.Proofs
set_option maxRecDepth 100000
theorem Q8a {Lp : Nat → List UInt8 → Int → List Q0 → Option Rd} {nx : List UInt8 → Option Rd} {E : List UInt8 → List Q0 → Option Rd} {v11 k num : Int} {cnt tot : Nat} {rd : List UInt8 → Rd}
  (hLp : ∀ n body i l, Lp (n + 1) body i l = cond (Q5 .lss i v11) ((nx body).bind fun v => cond (Q5 .eql v.2.2 3) (some ((⟨0, 0, [], []⟩ : Q0), 0, 5)) (cond (Q5 .neq v.2.2 0) (some ((⟨0, 0, [], []⟩ : Q0), 0, v.2.2)) (cond (Nat.ble ((l.length + 1 + 4096) * 56) 17592186044416) (cond (decide (0 ≤ v.2.1)) (cond (Nat.ble v.2.1.toNat body.length && Nat.ble body.length body.length) (Lp n ((body.take body.length).drop v.2.1.toNat) (IntKind.wrap .u64 (i + 1)) (l ++ [v.1])) none) none) none))) (E body l))
  (h11 : v11 = (cnt : Int)) (hc : cnt ≤ 1000) (hR : ∀ s, s.length ≤ 300000 → nx s = some (rd s)) (hg : Qln rd) (hf : ∀ s, s.length ≤ 300000 → (rd s).2.2 = 0 → Fine (rd s).1)
  (hE : ∀ body l, (∀ x ∈ l, Fine x) → Q0.szs l ≤ 300001000 → E body l = some (Q7p k num ((l, body), 0) tot)) :
  ∀ (n i : Nat) (body : List UInt8) (l : List Q0), i ≤ cnt → cnt - i < n → body.length ≤ 300000 → l.length = i → (∀ x ∈ l, Fine x) → Q0.szs l ≤ i + 1000 * (300000 - body.length) →
  Lp n body (i : Int) l = some (Q7p k num (X9 rd (cnt - i) body l) tot)
 | 0, i, body, l, _, h, _, _, _, _ => by omega
 | n + 1, i, body, l, hi, hn, hb, hl, hfl, hz => by
  rw [hLp]
  simp only [Qa, Ve, Ww, U9, h11, hR body hb, Option.bind_some, List.take_length]
  by_cases hic : i < cnt
  ·rw [if_pos (by omega)]
   obtain ⟨k', hk⟩ : ∃ k', cnt - i = k' + 1 := ⟨cnt - i - 1, by omega⟩
   rw [hk, X9]
   have hgd := hg body (by omega)
   have hfd := hf body hb
   generalize hr : rd body = r at hgd hfd ⊢
   obtain ⟨x, m, e⟩ := r
   simp only [] at hgd hfd ⊢
   by_cases he : e = 0
   ·subst he
    obtain ⟨g1, g2, g3⟩ := hgd rfl
    obtain ⟨mm, rfl⟩ := Int.eq_ofNat_of_zero_le g1
    simp only [Int.toNat_natCast] at g3 ⊢
    rw [if_neg (by decide), if_neg (by simp), if_pos (by simp [Nat.ble_eq]; omega), if_pos (by simp), if_pos (by simp [Nat.ble_eq]; omega), Qtr i (by omega), if_neg (by simp)]
    have ih := Q8a hLp h11 hc hR hg hf hE n (i + 1) (body.drop mm) (l ++ [x]) (by omega) (by omega) (by rw [List.length_drop]; omega) (by simp [hl]) (fun y hy => by
     rcases List.mem_append.1 hy with hy | hy
     ·exact hfl y hy
     ·rw [List.mem_singleton.1 hy]; exact hfd rfl) (by
     rw [Q0.szs_app, List.length_drop]
     simp only [Q0.szs] at g3 ⊢
     omega)
    rw [ih, show cnt - (i + 1) = k' by omega]
   ·rw [if_pos (show e ≠ 0 from he), if_pos (show e ≠ 0 from he), Q8l he]
    by_cases h3 : e = 3
    ·rw [if_pos h3, if_pos h3]; rfl
    ·rw [if_neg h3, if_neg h3]; rfl
  ·rw [if_neg (by omega), show cnt - i = 0 by omega, X9]
   exact hE body l hfl (by omega)
theorem Qpe {N : Nat} {body : List UInt8} {l : List Q0} {a : Int} {tot : Nat} (hfl : ∀ x ∈ l, Fine x) (hz : Q0.szs l ≤ 300001000) (hN : 700000000 < N) (ha : a = (tot : Int)) :
  (cond (Q22 .neq body []) (some ((⟨0, 0, [], []⟩ : Q0), (0 : Int), (5 : Int))) ((Yv N l).bind fun v101 => cond v101 (some ((⟨0, 0, [], []⟩ : Q0), 0, 16)) (some ((⟨23, 0, [], l⟩ : Q0), a, 0)))) = some (Q7p 23 0 ((l, body), 0) tot) := by
 have hs : Q0.sz ⟨23, 0, [], l⟩ = 1 + Q0.szs l := by rw [Q0.sz_eq]
 have h1 := Qnn N ⟨23, 0, [], l⟩ (.mk _ Qpn (by simp) hfl) rfl (by omega) (by omega)
 simp only at h1
 simp only [h1, Qa, Q1d, Option.bind_some, ha]
 unfold Q7p
 simp only []
 rw [if_neg (show ¬ ((0 : Int) ≠ 0) by simp)]
 by_cases hb : body ≠ []
 ·rw [if_pos hb, if_pos hb]; rfl
 ·rw [if_neg hb, if_neg hb]
  rcases Qnu ⟨23, 0, [], l⟩ with h | h
  ·rw [h]; simp
  ·rw [h]; simp [Js]
theorem Qh9 {body : List UInt8} {l : List Q0} {k num a : Int} {tot : Nat} (hk : k ≠ 23) (ha : a = (tot : Int)) :
  (cond (Q22 .neq body []) (some ((⟨0, 0, [], []⟩ : Q0), (0 : Int), (5 : Int))) (some ((⟨k, num, [], l⟩ : Q0), a, 0))) = some (Q7p k num ((l, body), 0) tot) := by
 simp only [Qa, Q1d, ha]
 unfold Q7p
 simp only []
 rw [if_neg (show ¬ ((0 : Int) ≠ 0) by simp), Q8w hk]
 by_cases hb : body ≠ []
 ·rw [if_pos hb, if_pos hb]; rfl
 ·rw [if_neg hb, if_neg hb, if_neg (by simp)]
theorem Qm7 : ∀ (m : Nat) (code : Int) (s : List UInt8), s.length ≤ 300000 → (Ym m code s).2.2 = 0 → Fine (Ym m code s).1 := fun m code s h1 h2 => (Q1p m code s h1 h2).1
theorem Qeb (m : Nat) (s : List UInt8) (h1 : s.length ≤ 300000) (h2 : (Z8 (Ym m) s).2.2 = 0) : Fine (Z8 (Ym m) s).1 := by
 obtain ⟨b, u, rfl, e1, e2⟩ := Q87 h2
 have := Q1p m b.toNat u (by simp at h1; omega) e1
 rw [e2]; exact this.1
theorem Qlh {R1 : List UInt8 → Int → Option Rd} {R2 : Int → List UInt8 → Int → Option Rd} {R3 : Qd → List UInt8 → Int → Option Rd} {R4 : Int → List UInt8 → Int → Option Rd} {N m m' : Nat} {c : Qd} {s : List UInt8}
  (hN : 700000000 < N) (hm : m + 1 ≤ 32) (hs : s.length ≤ 300000) (hw : c.Width = 1 ∨ c.Width = 4) (_hk : 22 ≤ c.Kind ∧ c.Kind ≤ 24)
  (h1 : ∀ t, t.length ≤ 300000 → R4 (-1) t (((m + 1 : Nat) : Int) - 1) = some (Z8 (Ym m') t)) (h2 : ∀ code t, 0 ≤ code → t.length ≤ 300000 → R4 code t (((m + 1 : Nat) : Int) - 1) = some (Ym m' code t)) :
  Xo R1 R2 R3 R4 N c s ((m + 1 : Nat) : Int) = some (Q13 (Ym m') c s) := by
 obtain ⟨w, hw1, hw2⟩ : ∃ w : Nat, c.Width = w ∧ (w = 1 ∨ w = 4) := by
  rcases hw with h | h
  ·exact ⟨1, h, .inl rfl⟩
  ·exact ⟨4, h, .inr rfl⟩
 have hg := Uw m'
 simp only [Xo, hw1, Qa, Ve, Q0h, Ww, U9, Int.toNat_natCast, List.drop_zero]
 unfold Q13
 rw [hw1, Int.toNat_natCast]
 by_cases hl : s.length < w
 ·rw [if_pos (by omega), if_pos hl]; rfl
 rw [if_neg (by omega), if_neg hl, if_pos (by simp), if_pos (by simp [Nat.ble_eq]; omega), Qhf N (s.take w) (by rw [List.length_take]; omega) (by omega)]
 simp only [Option.bind_some]
 have hlt := Q0k (s.take w)
 have h4 : 256 ^ (s.take w).length ≤ 256 ^ 4 := Nat.pow_le_pow_right (by omega) (by rw [List.length_take]; omega)
 have h5 : (256 : Nat) ^ 4 = 4294967296 := rfl
 generalize hn : Jq (s.take w) = n at *
 rw [show IntKind.i64.wrap ((s.length : Int) - (w : Int)) = ((s.length - w : Nat) : Int) by rw [Qv _ (by omega)]; omega, Q78 _ (by omega)]
 by_cases h6 : s.length - w < n
 ·rw [if_pos (by omega), if_pos h6]; rfl
 have e1 : IntKind.i64.wrap ((w : Int) + IntKind.i64.wrap (n : Int)) = ((w + n : Nat) : Int) := by
  rw [Qv (n : Int) (by omega), Qv _ (by omega)]; push_cast; rfl
 rw [if_neg (by omega), if_neg h6]
 simp only [e1, Int.toNat_natCast]
 rw [if_pos (by simp; omega), if_pos (by simp [Nat.ble_eq]; omega)]
 have e2 : (s.take (w + n)).drop w = (s.drop w).take n := by rw [List.drop_take]; congr 1; omega
 simp only [e2]
 have hbl : ((s.drop w).take n).length = n := by rw [List.length_take, List.length_drop]; omega
 generalize hbody : (s.drop w).take n = body at *
 simp only [List.take_length]
 unfold Qj3
 by_cases h7 : body.length < w
 ·rw [if_pos (by omega), if_pos h7]; rfl
 rw [if_neg (by omega), if_neg h7, if_pos (by simp [Nat.ble_eq]; omega), Qhf N (body.take w) (by rw [List.length_take]; omega) (by omega)]
 simp only [Option.bind_some]
 rw [if_pos (by simp [Nat.ble_eq]; omega)]
 generalize hcnt : Jq (body.take w) = cnt at *
 by_cases h8 : 1000 < cnt
 ·rw [if_pos (by omega), if_pos h8]; rfl
 rw [if_neg (by omega), if_neg h8]
 simp only [Qt8]
 have hdl : (body.drop w).length ≤ 300000 := by rw [List.length_drop]; omega
 by_cases h23 : c.Kind = 23
 ·rw [if_pos h23]
  by_cases h9 : cnt % 2 ≠ 0
  ·rw [if_pos h9, if_pos ⟨h23, h9⟩]; rfl
  ·rw [if_neg h9, if_neg (show ¬ (c.Kind = 23 ∧ cnt % 2 ≠ 0) from fun h => h9 h.2), if_neg (by omega), if_neg (show ¬ c.Kind = 24 by omega)]
   have := Q8a (Lp := Xw R4 N c ((m + 1 : Nat) : Int) (n : Int) (cnt : Int)) (nx := fun body => R4 (-1) body (IntKind.i64.wrap (((m + 1 : Nat) : Int) - 1))) (v11 := (cnt : Int)) (k := c.Kind) (num := 0) (cnt := cnt) (tot := w + n) (rd := Z8 (Ym m')) (fun _ _ _ _ => rfl) rfl (by omega) (fun s hs => by rw [Qv _ (by omega)]; exact h1 s hs) (Jt hg).1 (fun s hs he => Qeb m' s hs he) (fun body l hf hz => by
    have := Qpe (N := N) (body := body) (l := l) (tot := w + n) hf hz hN rfl
    rw [h23, hw1, e1]; exact this) N 0 (body.drop w) [] (by omega) (by omega) hdl rfl (by simp) (by simp [Q0.szs])
   rw [Nat.sub_zero] at this
   exact this
 ·rw [if_neg h23, if_neg (show ¬ (c.Kind = 23 ∧ cnt % 2 ≠ 0) from fun h => h23 h.1)]
  by_cases h24 : c.Kind = 24
  ·rw [if_pos h24, if_pos h24]
   cases hd : body.drop w with
   | nil => rfl
   | cons b t =>
    rw [if_neg (by simp [Q22]), show idx (b :: t) 0 = some b from rfl]
    simp only [Option.bind_some, Qrt, Qjg]
    rw [Q8k N _ (by omega)]
    simp only [Option.bind_some]
    cases ho : ofB (b.toNat : Int) with
    | false => rw [if_pos (by rfl), if_pos (.inl rfl)]; rfl
    | true =>
     rw [if_neg (by simp)]
     by_cases hb0 : b.toNat = 0
     ·rw [if_pos (by omega), if_pos (.inr hb0)]; rfl
     ·rw [if_neg (show ¬ ((b.toNat : Int) = 0) by omega), if_neg (show ¬ (true = false ∨ b.toNat = 0) by simp [hb0]), if_pos (show (Nat.ble 1 (b :: t).length && Nat.ble (b :: t).length (b :: t).length) = true by simp [Nat.ble_eq])]
      have hkb := (Q5p _ ho).kind
      have htl : t.length ≤ 300000 := by
       have := congrArg List.length hd
       rw [List.length_drop, List.length_cons] at this; omega
      have := Q8a (Lp := Xr R4 N c ((m + 1 : Nat) : Int) (n : Int) (cnt : Int) b (ofS (b.toNat : Int), true)) (nx := fun body => R4 (IntKind.i64.wrap (b.toNat : Int)) body (IntKind.i64.wrap (((m + 1 : Nat) : Int) - 1))) (v11 := (cnt : Int)) (k := c.Kind) (num := (ofS (b.toNat : Int)).Kind) (cnt := cnt) (tot := w + n) (rd := Ym m' (b.toNat : Int)) (fun _ _ _ _ => rfl) rfl (by omega) (fun s hs => by rw [Qjg, Qv _ (by omega)]; exact h2 _ s (by omega) hs) (hg _) (fun s hs he => Qm7 m' _ s hs he) (fun body l hf hz => by
       have := Qh9 (body := body) (l := l) (k := c.Kind) (num := (ofS (b.toNat : Int)).Kind) (tot := w + n) h23 (a := ((w + n : Nat) : Int)) rfl
       rw [hw1, e1, show IntKind.u64.wrap (ofS (b.toNat : Int)).Kind = (ofS (b.toNat : Int)).Kind by rw [Q5v]; omega]; exact this) N 0 t [] (by omega) (by omega) htl rfl (by simp) (by simp [Q0.szs])
      rw [Nat.sub_zero] at this
      simp only [List.drop_succ_cons, List.drop_zero]
      exact this
  ·rw [if_neg h24, if_neg h24]
   have := Q8a (Lp := Xt R4 N c ((m + 1 : Nat) : Int) (n : Int) (cnt : Int)) (nx := fun body => R4 (-1) body (IntKind.i64.wrap (((m + 1 : Nat) : Int) - 1))) (v11 := (cnt : Int)) (k := c.Kind) (num := 0) (cnt := cnt) (tot := w + n) (rd := Z8 (Ym m')) (fun _ _ _ _ => rfl) rfl (by omega) (fun s hs => by rw [Qv _ (by omega)]; exact h1 s hs) (Jt hg).1 (fun s hs he => Qeb m' s hs he) (fun body l hf hz => by
    have := Qh9 (body := body) (l := l) (k := c.Kind) (num := 0) (tot := w + n) h23 (a := ((w + n : Nat) : Int)) rfl
    rw [hw1, e1]; exact this) N 0 (body.drop w) [] (by omega) (by omega) hdl rfl (by simp) (by simp [Q0.szs])
   rw [Nat.sub_zero] at this
   exact this
theorem Qhx {m N : Nat} {s : List UInt8} (hm : m ≤ 32) (hs : s.length ≤ 300000) (h : ∀ code t, t.length ≤ s.length → Y2 N code t (m : Int) = some (Ym m code t)) : Qs (N + 1) s (m : Int) = some (Z8 (Ym m) s) := by
 show X6 (Qs N) (Y2 N) (Yt N) (X2 N) N s (m : Int) = _
 simp only [X6, Qa, Ve, Q0h, U9]
 rw [if_neg (by omega), if_neg (by omega)]
 cases s with
 | nil => rfl
 | cons b t =>
  rw [if_neg (by simp [Q22]), show idx (b :: t) 0 = some b from rfl]
  simp only [Option.bind_some]
  rw [if_pos (by simp [Nat.ble_eq]), List.take_length, Qjg]
  simp only [List.drop_succ_cons, List.drop_zero]
  rw [h _ t (by simp)]
  simp only [Option.bind_some, Z8]
  by_cases he : (Ym m (b.toNat : Int) t).2.2 = 0
  ·rw [if_neg (by simp [he]), if_neg (by simp [he])]
   obtain ⟨g1, g2, g3⟩ := Uw m (b.toNat : Int) t (by simp at hs; omega) he
   rw [Qv _ (by simp at hs; omega)]
  ·rw [if_pos he, if_pos he]; rfl
theorem Qoa : ∀ m : Nat, m ≤ 32 → ∀ N : Nat, 700000100 + 5 * m < N → ∀ (code : Int) (s : List UInt8), s.length ≤ 300000 → Y2 N code s (m : Int) = some (Ym m code s) := by
 intro m
 induction m with
 | zero =>
  intro hm N hN code s hs
  obtain ⟨N, rfl⟩ : ∃ K, N = K + 1 := ⟨N - 1, by omega⟩
  show X5 (Qs N) (Y2 N) (Yt N) (X2 N) N code s ((0 : Nat) : Int) = _
  simp only [X5, Qa, Ve, Q0h, Ww, U9, Q8k N code (by omega), Option.bind_some, Ym]
  rw [if_neg (by omega), if_neg (by omega)]
  cases h1 : ofB code with
  | false => rfl
  | true =>
   simp only [Bool.not_true, Bool.false_eq_true, if_false, Bool.true_eq_false]
   cases h2 : (ofS code).Items with
   | false =>
    simp only [Bool.not_false, if_true]
    rw [Qeq N code s (by omega) (by omega) (by omega)]; rfl
   | true => rfl
 | succ m ih =>
  intro hm N hN code s hs
  obtain ⟨N, rfl⟩ : ∃ K, N = K + 5 := ⟨N - 5, by omega⟩
  show X5 (Qs (N + 4)) (Y2 (N + 4)) (Yt (N + 4)) (X2 (N + 4)) (N + 4) code s ((m + 1 : Nat) : Int) = _
  simp only [X5, Qa, Ve, Q0h, Ww, U9, Q8k (N + 4) code (by omega), Option.bind_some, Ym, Qv (((m + 1 : Nat) : Int) - 1) (show _ by omega)]
  rw [if_neg (by omega), if_neg (by omega)]
  cases h1 : ofB code with
  | false => rfl
  | true =>
   simp only [Bool.not_true, Bool.false_eq_true, if_false, Bool.true_eq_false]
   cases h2 : (ofS code).Items with
   | false =>
    simp only [Bool.not_false, if_true]
    rw [Qeq (N + 4) code s (by omega) (by omega) (by omega)]; rfl
   | true =>
    simp only [Bool.not_true, Bool.false_eq_true, if_false, Bool.true_eq_false]
    rw [if_neg (show ¬ (((m + 1 : Nat) : Int) = 0) by omega)]
    have em : (((m + 1 : Nat) : Int) - 1) = (m : Int) := by omega
    have hR : ∀ K, N + 1 ≤ K → ∀ t : List UInt8, t.length ≤ 300000 → Qs K t (m : Int) = some (Z8 (Ym m) t) := fun K hK t ht => by
     obtain ⟨K, rfl⟩ : ∃ J, K = J + 1 := ⟨K - 1, by omega⟩
     exact Qhx (by omega) ht (fun code u hu => ih (by omega) K (by omega) code u (by omega))
    cases h4 : (ofS code).Sized with
    | true =>
     have hsh := (Wf h1 h2).1 h4
     rw [if_pos rfl, if_neg (show ¬ (ofS code).Kind = 25 by omega)]
     simp only [Bool.true_eq_false, if_false]
     show (Xo (Qs (N + 3)) (Y2 (N + 3)) (Yt (N + 3)) (X2 (N + 3)) (N + 3) (ofS code) s ((m + 1 : Nat) : Int)).bind _ = _
     rw [Qlh (m := m) (m' := m) (c := ofS code) (by omega) hm hs hsh.1 hsh.2 (fun t ht => by
      rw [em]
      show X3 (Qs (N + 2)) (Y2 (N + 2)) (Yt (N + 2)) (X2 (N + 2)) (N + 2) (-1) t (m : Int) = _
      simp only [X3, Qa, Ve]
      rw [if_pos (by decide), hR (N + 2) (by omega) t ht]; rfl) (fun code t hc ht => by
      rw [em]
      show X3 (Qs (N + 2)) (Y2 (N + 2)) (Yt (N + 2)) (X2 (N + 2)) (N + 2) code t (m : Int) = _
      simp only [X3, Qa, Ve]
      rw [if_neg (by omega), ih (by omega) (N + 2) (by omega) code t ht]; rfl)]; rfl
    | false =>
     have hsh := (Wf h1 h2).2 h4
     simp only [Bool.false_eq_true, if_false, if_true]
     by_cases h22 : (ofS code).Kind = 22
     ·rw [if_pos h22, if_neg (show ¬ (ofS code).Kind = 25 by omega), h22]
     ·rw [if_neg h22, if_pos (show (ofS code).Kind = 25 by omega), em, hR (N + 4) (by omega) s hs]
      have hgr := (Jt (Uw m)).1
      simp only [Option.bind_some]
      unfold Qc7
      rw [X9]
      have hg1 := hgr s (by omega)
      generalize hr : Z8 (Ym m) s = r at hg1 ⊢
      obtain ⟨x, n, e⟩ := r
      simp only [] at hg1 ⊢
      by_cases he : e = 0
      ·subst he
       obtain ⟨g1, g2, g3⟩ := hg1 rfl
       obtain ⟨n, rfl⟩ := Int.eq_ofNat_of_zero_le g1
       simp only [Int.toNat_natCast, List.take_length]
       rw [if_neg (by simp), if_pos (by simp), if_pos (by simp [Nat.ble_eq]; omega), hR (N + 4) (by omega) (s.drop n) (by rw [List.length_drop]; omega)]
       simp only [Option.bind_some]
       rw [if_neg (show ¬ ((0 : Int) ≠ 0) by simp), X9]
       have hg2 := hgr (s.drop n) (by rw [List.length_drop]; omega)
       generalize hr2 : Z8 (Ym m) (s.drop n) = r2 at hg2 ⊢
       obtain ⟨x2, n2, e2⟩ := r2
       simp only [] at hg2 ⊢
       by_cases he2 : e2 = 0
       ·subst he2
        obtain ⟨q1, q2, q3⟩ := hg2 rfl
        obtain ⟨n2, rfl⟩ := Int.eq_ofNat_of_zero_le q1
        rw [List.length_drop] at q2
        rw [if_neg (by simp), if_neg (show ¬ ((0 : Int) ≠ 0) by simp), X9]
        simp only []
        rw [if_neg (by simp), Qv _ (by omega)]
        simp only [Int.toNat_natCast, List.length_drop, List.nil_append, List.cons_append]
        congr 3
        omega
       ·rw [if_pos he2, if_pos (show e2 ≠ 0 from he2)]
        simp only []
        rw [if_pos (show e2 ≠ 0 from he2)]; rfl
      ·rw [if_pos he, if_pos (show e ≠ 0 from he)]
       simp only []
       rw [if_pos (show e ≠ 0 from he)]; rfl
theorem Q9k (m N : Nat) (s : List UInt8) (hm : m ≤ 32) (hN : 700000200 + 5 * m < N) (hs : s.length ≤ 300000) : Qs N s (m : Int) = some (Z8 (Ym m) s) := by
 obtain ⟨N, rfl⟩ : ∃ K, N = K + 1 := ⟨N - 1, by omega⟩
 exact Qhx hm hs (fun code t ht => Qoa m hm N (by omega) code t (by omega))
end
end Go.Av
namespace Go.Av
noncomputable section
open Go.Proofs
set_option maxRecDepth 100000
theorem Quh (N : Nat) (s : List UInt8) (most : Int) (hs : s.length ≤ 300000) (hN : 700000500 < N) : ∃ r : Rd, Zc N s most = some r ∧ Qs N s most = some r ∧ (r.1).sz ≤ 300001000 := by
 by_cases h : 0 ≤ most ∧ most ≤ 32
 ·obtain ⟨m, rfl⟩ := Int.eq_ofNat_of_zero_le h.1
  refine ⟨_, Qpw m N s (by omega) (by omega) (by omega), Q9k m N s (by omega) (by omega) hs, ?_⟩
  by_cases he : (Z8 (Ym m) s).2.2 = 0
  ·have := (Jt (Uw m)).1 s (by omega) he
   omega
  ·rw [(Qdk s he).1]; decide
 ·obtain ⟨N, rfl⟩ : ∃ K, N = K + 1 := ⟨N - 1, by omega⟩
  refine ⟨(Js, 0, 2), ?_, ?_, by decide⟩
  ·show W1 (Zc N) (Xh N) (X8 N) (V6 N) N s most = _
   simp only [W1, Q49, show Q4i most = false from decide_eq_false h, Option.bind_some, Qa, Bool.not_false, if_true]; rfl
  ·show X6 (Qs N) (Y2 N) (Yt N) (X2 N) N s most = _
   simp only [X6, Qa, Ve, Q0h]
   by_cases h1 : most < 0
   ·rw [if_pos h1]; rfl
   ·rw [if_neg h1, if_pos (show most > 32 by omega)]; rfl
end
end Go.Av
namespace Go.Av
noncomputable section
open Go.Proofs
set_option maxRecDepth 100000
def Uq (code : Int) (v : Q0) (b : List UInt8) : Bool :=
 if (ofS code).Items = false then Jr code v else if (ofS code).Width = 0 then decide (v.Items.length = 0)
 else decide ((ofS code).Width = 4 ∨ (v.Items.length < 256 ∧ b.length + 1 < 256))
def Zw (code : Int) (v : Q0) (b : List UInt8) : List UInt8 :=
 if (ofS code).Items = false then (Qqg code v).1 else if (ofS code).Sized = false then []
 else Ua (b.length + (ofS code).Width.toNat) (ofS code).Width.toNat ++ (Ua v.Items.length (ofS code).Width.toNat ++ b)
def Qf7 (c : Int) (l : List (Q0 × List UInt8)) : Bool := l.all fun p => Uq c p.1 p.2
def Q0c (k : Int) (l : List (Q0 × List UInt8)) : Int := ((W2 k).find? (fun c => Qf7 c l)).getD 0
def Q7w (c : Int) : UInt8 := UInt8.ofNat c.toNat
def Qvt (n : Int) (l : List (Q0 × List UInt8)) : List UInt8 := Q7w (Q0c n l) :: (l.map fun p => Zw (Q0c n l) p.1 p.2).flatten
def Qui (k n : Int) (is : List Q0) (l : List (List UInt8 × List UInt8)) : List UInt8 := if k = 24 then Qvt n (is.zip (l.map (·.1))) else if k = 25 then [] else (l.map (·.2)).flatten
def Qvd (v : Q0) (b : List UInt8) (l : List (List UInt8 × List UInt8)) : List UInt8 := if v.Kind = 25 then 0 :: (l.map (·.2)).flatten else Q7w (Q0c v.Kind [(v, b)]) :: Zw (Q0c v.Kind [(v, b)]) v b
mutual
def Q0.enc : Q0 → List UInt8 × List UInt8
 | .mk k n t is => (Qui k n is (Q0.encs is), Qvd ⟨k, n, t, is⟩ (Qui k n is (Q0.encs is)) (Q0.encs is))
def Q0.encs : List Q0 → List (List UInt8 × List UInt8)
 | [] => []
 | v :: l => v.enc :: Q0.encs l
end
def Q0.inn (v : Q0) : List UInt8 := v.enc.1
def Q0.byt (v : Q0) : List UInt8 := v.enc.2
theorem Qg0 : ∀ l, Q0.encs l = l.map Q0.enc
 | [] => rfl
 | v :: l => by rw [Q0.encs, Qg0 l]; rfl
def Q0.prs (v : Q0) : List (Q0 × List UInt8) := v.Items.map fun x => (x, x.inn)
def Q0.elm (v : Q0) : Int := Q0c v.N' v.prs
def Q0.cod (v : Q0) : Int := Q0c v.Kind [(v, v.inn)]
theorem Qqw (l : List Q0) : l.zip ((l.map Q0.enc).map (·.1)) = l.map fun x => (x, x.inn) := by
 induction l with
 | nil => rfl
 | cons x l ih => simp only [List.map_cons, List.zip_cons_cons, ih]; rfl
theorem Q3k (v : Q0) : v.inn = if v.Kind = 24 then Q7w v.elm :: (v.Items.map fun x => Zw v.elm x x.inn).flatten else if v.Kind = 25 then [] else (v.Items.map Q0.byt).flatten := by
 obtain ⟨k, n, t, is⟩ := v
 unfold Q0.inn
 rw [Q0.enc, Qg0]
 simp only [Qui, Qqw, Q0.elm, Q0.prs, Qvt]
 simp only [List.map_map]
 rfl
theorem Qav (v : Q0) : v.byt = if v.Kind = 25 then 0 :: (v.Items.map Q0.byt).flatten else Q7w v.cod :: Zw v.cod v v.inn := by
 obtain ⟨k, n, t, is⟩ := v
 unfold Q0.byt Q0.cod Q0.inn
 rw [Q0.enc, Qg0]
 simp only [Qvd, List.map_map]
 rfl
theorem Qbx {k : Int} {l : List (Q0 × List UInt8)} (h : ∃ c ∈ W2 k, Qf7 c l = true) : Q0c k l ∈ W2 k ∧ Qf7 (Q0c k l) l = true := by
 unfold Q0c
 cases hf : (W2 k).find? (fun c => Qf7 c l) with
 | some c => exact ⟨List.mem_of_find?_eq_some hf, by simpa using List.find?_some hf⟩
 | none =>
  obtain ⟨c, h1, h2⟩ := h
  have := List.find?_eq_none.1 hf c h1
  exact absurd h2 this
theorem Qi3 {k : Int} {l : List (Q0 × List UInt8)} {c : Int} (hc : c ∈ W2 k) (h : Qf7 c l = true) : (ofS (Q0c k l)).Width ≤ (ofS c).Width := by
 unfold Q0c
 have hp := Qfn k
 cases hf : (W2 k).find? (fun c => Qf7 c l) with
 | none => exact absurd h (List.find?_eq_none.1 hf c hc)
 | some d =>
  obtain ⟨l1, l2, e, ha⟩ := (List.find?_eq_some_iff_append.1 hf).2
  show (ofS d).Width ≤ (ofS c).Width
  rw [e] at hc hp
  rcases List.mem_append.1 hc with h1 | h1
  ·have := ha c h1
   simp [h] at this
  ·rcases List.mem_cons.1 h1 with rfl | h1
   ·exact Int.le_refl _
   ·exact (List.pairwise_cons.1 (List.pairwise_append.1 hp).2.1).1 c h1
def Q07 (k : Int) : Int := (W2 k).getLastD 0
def Qla (k : Nat) : Bool := !(decide (1 ≤ k)) || ((W2 k).contains (Q07 k) && ((k == 25) || (if (ofS (Q07 k)).Items then decide ((ofS (Q07 k)).Width = 4) && (ofS (Q07 k)).Sized else if (ofS (Q07 k)).Sized then decide ((ofS (Q07 k)).Width = 4) else decide ((ofS (Q07 k)).Code ≠ 65) && (decide ((ofS (Q07 k)).Width = 0 ∧ (Uj k).1 = 0 ∧ (Uj k).2 = false) || (decide ((ofS (Q07 k)).Width = 1) && decide (8 = (Uj k).1 ∨ (Uj k).1 = 1 ∧ (Uj k).2 = false)) || decide (1 < (ofS (Q07 k)).Width)))))
theorem Ql7 : ((List.range 26).all Qla) = true := by decide +kernel
theorem Q9m {k : Int} (h : 1 ≤ k ∧ k ≤ 25) : Qla k.toNat = true := List.all_eq_true.1 Ql7 k.toNat (by simp; omega)
theorem Qmb {v : Q0} (hn : okU v.N') (h : U0 v = 0) : Q07 v.Kind ∈ W2 v.Kind ∧ Jr (Q07 v.Kind) v = true := by
 obtain ⟨c1, c2, c3, c4, c5, c6, c7⟩ := U6 h
 have hb := Q9m (k := v.Kind) (by omega)
 unfold Qla at hb
 rw [show ((v.Kind.toNat : Nat) : Int) = v.Kind by omega] at hb
 simp only [Bool.or_eq_true, Bool.not_eq_true', decide_eq_false_iff_not, Bool.and_eq_true, List.contains_iff_mem, beq_iff_eq] at hb
 rcases hb with hb | ⟨hm, hb⟩
 ·omega
 ·refine ⟨hm, ?_⟩
  obtain ⟨d1, d2, d3⟩ := Q0d _ _ hm
  have hw := Q5p _ d1
  have hi := Ul hw (by omega)
  rcases hb with hb | hb
  ·omega
  rw [hi] at hb
  simp only [Bool.false_eq_true, if_false] at hb
  have hs : Q1q (ofS (Q07 v.Kind)) v = true := by
   unfold Q1q
   by_cases hz : (ofS (Q07 v.Kind)).Sized = true
   ·rw [if_pos hz] at hb
    have h4 : (ofS (Q07 v.Kind)).Width = 4 := by simpa using hb
    obtain ⟨_, _, _, h65⟩ := hw.sized hi hz
    rw [if_neg h65, if_pos hz]
    simp [h4]
   ·rw [if_neg hz] at hb
    simp only [Bool.and_eq_true, Bool.or_eq_true, decide_eq_true_eq] at hb
    obtain ⟨h65, hb⟩ := hb
    rw [if_neg h65, if_neg hz]
    have hnum := c3
    unfold Q61 at hnum
    simp only [Bool.and_eq_true] at hnum
    have hf := hnum.1
    rcases hb with (⟨w0, b0, b1⟩ | ⟨w1, hb⟩) | w2
    ·rw [if_pos w0]
     rw [b0, b1] at hf
     unfold Gm at hf
     simp at hf ⊢
     have := hn.1
     omega
    ·rw [if_neg (by omega), if_pos w1, d3]
     rcases hb with hb | ⟨b1, b2⟩
     ·rw [← hb] at hf; exact hf
     ·rw [b1, b2] at hf
      rw [b2]
      unfold Gm at hf ⊢
      simp at hf ⊢
      omega
    ·rw [if_neg (by omega), if_neg (by omega)]
  unfold Jr
  simp [d1, d3, h, hs]
end
end Go.Av
namespace Go.Av
noncomputable section
open Go.Proofs
set_option maxRecDepth 100000
theorem Q97 : ∀ (l : List Q0) (k n m e : Int), Gv l k n m e = 0 → e = 0 ∧ ∀ x ∈ l, Yq x m = 0 ∧ (k = 24 → IntKind.u64.wrap x.Kind = n)
 | [], _, _, _, _, h => ⟨by simpa [Gv] using h, fun x hx => by cases hx⟩
 | x :: l, k, n, m, e, h => by
  rw [Gv] at h
  split at h
  ·cases h
  ·rename_i h1
   split at h
   ·rename_i h2; exact absurd h h2
   ·rename_i h2
    obtain ⟨i1, i2⟩ := Q97 l k n m e h
    refine ⟨i1, fun y hy => ?_⟩
    rcases List.mem_cons.1 hy with rfl | hy
    ·exact ⟨Classical.byContradiction h2, fun hk => Classical.byContradiction fun hn => h1 ⟨hk, hn⟩⟩
    ·exact i2 y hy
theorem Q08 {v : Q0} (h : Gf v = true) : v.Text = [] ∧ (v.Kind = 24 → 1 ≤ v.N' ∧ v.N' ≤ 24) ∧ (v.Kind ≠ 24 → v.N' = 0) ∧ (v.Kind = 25 → v.Items.length = 2) ∧ (v.Kind = 23 → v.Items.length % 2 = 0) := by
 unfold Gf Q76 at h
 simp only [Qa, Q1d, Ww, U9, Q8r, Wd] at h
 split at h
 ·cases h
 ·rename_i h1
  have h1 : v.Text = [] := by simpa using h1
  refine ⟨h1, ?_⟩
  split at h
  ·rename_i h2
   split at h
   ·rename_i h3
    have h4 : v.N' ≤ 24 := by
     have : Q5 .leq v.N' 24 = true := by simpa using h
     rw [Q6g] at this; exact this
    exact ⟨fun _ => ⟨h3, h4⟩, fun h => absurd h2 h, fun h => by omega, fun h => by omega⟩
   ·cases h
  ·rename_i h2
   split at h
   ·cases h
   ·rename_i h3
    have h3 : v.N' = 0 := by simpa using h3
    refine ⟨fun h => absurd h h2, fun _ => h3, ?_, ?_⟩
    ·intro h5
     rw [if_pos h5] at h
     have : Q5 .eql (v.Items.length : Int) 2 = true := by simpa using h
     rw [Ww] at this; omega
    ·intro h5
     rw [if_neg (by omega), if_pos h5] at h
     have : Q5 .eql ((v.Items.length : Int).tmod 2) 0 = true := by simpa using h
     rw [Ww, Int.tmod_eq_emod_of_nonneg (by omega)] at this; omega
theorem Uz {v : Q0} {m : Int} (h : Yq v m = 0) : (1 ≤ v.Kind ∧ v.Kind ≤ 21 ∧ U0 v = 0) ∨
  (22 ≤ v.Kind ∧ v.Kind ≤ 25 ∧ m ≠ 0 ∧ Gf v = true ∧ v.Items.length ≤ 1000 ∧ Q0y v = 0 ∧ ∀ x ∈ v.Items, Yq x (m - 1) = 0 ∧ (v.Kind = 24 → IntKind.u64.wrap x.Kind = v.N')) := by
 rw [Q1u] at h
 split at h
 ·cases h
 ·split at h
  ·cases h
  ·split at h
   ·exact .inl ⟨by omega, by omega, h⟩
   ·split at h
    ·cases h
    ·split at h
     ·cases h
     ·rename_i hs
      split at h
      ·cases h
      ·obtain ⟨h1, h2⟩ := Q97 _ _ _ _ _ h
       exact .inr ⟨by omega, by omega, by assumption, by simpa using hs, by omega, h1, h2⟩
theorem Q40 {v : Q0} {m : Int} (h : Yq v m = 0) : 1 ≤ v.Kind ∧ v.Kind ≤ 25 := by
 rcases Uz h with ⟨h1, h2, _⟩ | ⟨h1, h2, _⟩ <;> omega
theorem Q1n {v : Q0} {m : Int} (h : Yq v m = 0) : IntKind.u64.wrap v.Kind = v.Kind := by
 have := Q40 h
 rw [Q5v]; omega
theorem Qjk {k : Int} (h : 22 ≤ k ∧ k ≤ 24) : Q07 k ∈ W2 k ∧ (ofS (Q07 k)).Items = true ∧ (ofS (Q07 k)).Width = 4 := by
 have hb := Q9m (k := k) (by omega)
 unfold Qla at hb
 rw [show ((k.toNat : Nat) : Int) = k by omega] at hb
 simp only [Bool.or_eq_true, Bool.not_eq_true', decide_eq_false_iff_not, Bool.and_eq_true, List.contains_iff_mem, beq_iff_eq] at hb
 rcases hb with hb | ⟨hm, hb⟩
 ·omega
 ·obtain ⟨d1, d2, d3⟩ := Q0d _ _ hm
  have hi : (ofS (Q07 k)).Items = true := by rw [(Q5p _ d1).items, d3]; simp; omega
  rcases hb with hb | hb
  ·omega
  ·rw [if_pos hi] at hb
   simp only [Bool.and_eq_true, decide_eq_true_eq] at hb
   exact ⟨hm, hi, hb.1⟩
theorem Qdu {v : Q0} {m : Int} (hf : Fine v) (h : Yq v m = 0) (hk : v.Kind ≠ 25) (b : List UInt8) : Q07 v.Kind ∈ W2 v.Kind ∧ Uq (Q07 v.Kind) v b = true := by
 rcases Uz h with ⟨h1, h2, h3⟩ | ⟨h1, h2, _⟩
 ·obtain ⟨g1, g2⟩ := Qmb hf.num h3
  obtain ⟨f1, f2, _⟩ := Gi g2
  refine ⟨g1, ?_⟩
  unfold Uq
  rw [if_pos (Ul (Q5p _ f1) (by omega))]; exact g2
 ·obtain ⟨g1, g2, g3⟩ := Qjk (k := v.Kind) (by omega)
  refine ⟨g1, ?_⟩
  unfold Uq
  rw [if_neg (by simp [g2]), if_neg (by omega)]
  simp [g3]
theorem Qmt {v : Q0} {m : Int} (hf : Fine v) (h : Yq v m = 0) (hk : v.Kind = 24) : v.elm ∈ W2 v.N' ∧ ∀ x ∈ v.Items, Uq v.elm x x.inn = true := by
 rcases Uz h with ⟨h1, h2, h3⟩ | ⟨h1, h2, h3, h4, h5, h6, h7⟩
 ·omega
 obtain ⟨s1, s2, s3, s4, s5⟩ := Q08 h4
 have hn := s2 hk
 have hkx : ∀ x ∈ v.Items, x.Kind = v.N' := fun x hx => by
  have := (h7 x hx).2 hk
  rw [Q1n (h7 x hx).1] at this; exact this
 have hlast : Q07 v.N' ∈ W2 v.N' := by
  have hb := Q9m (k := v.N') (by omega)
  unfold Qla at hb
  rw [show ((v.N'.toNat : Nat) : Int) = v.N' by omega] at hb
  simp only [Bool.or_eq_true, Bool.not_eq_true', decide_eq_false_iff_not, Bool.and_eq_true, List.contains_iff_mem] at hb
  rcases hb with hb | ⟨hm, _⟩
  ·omega
  ·exact hm
 obtain ⟨g1, g2⟩ := Qbx (k := v.N') (l := v.prs) ⟨Q07 v.N', hlast, by
  unfold Qf7 Q0.prs
  rw [List.all_map, List.all_eq_true]
  intro x hx
  have hkk := hkx x hx
  have := (Qdu (hf.items x hx) (h7 x hx).1 (by omega) x.inn).2
  rw [hkk] at this
  exact this⟩
 refine ⟨g1, fun x hx => ?_⟩
 have := List.all_eq_true.1 g2 (x, x.inn) (by unfold Q0.prs; exact List.mem_map.2 ⟨x, hx, rfl⟩)
 exact this
theorem Qhh {v : Q0} {m : Int} (hf : Fine v) (h : Yq v m = 0) (hk : v.Kind ≠ 25) : v.cod ∈ W2 v.Kind ∧ Uq v.cod v v.inn = true := by
 obtain ⟨l1, l2⟩ := Qdu hf h hk v.inn
 obtain ⟨g1, g2⟩ := Qbx (k := v.Kind) (l := [(v, v.inn)]) ⟨Q07 v.Kind, l1, by simp [Qf7, l2]⟩
 exact ⟨g1, by unfold Q0.cod; simpa [Qf7] using g2⟩
mutual
def Q0.wgt : Q0 → Nat
 | .mk _ _ t is => t.length + 30 + Q0.wgts is
def Q0.wgts : List Q0 → Nat
 | [] => 0
 | v :: l => v.wgt + Q0.wgts l
end
theorem Q0.wgt_eq (v : Q0) : v.wgt = v.Text.length + 30 + Q0.wgts v.Items := by cases v; simp only [Q0.wgt]
theorem Q8d : ∀ (l : List Q0), ∀ x ∈ l, x.wgt ≤ Q0.wgts l
 | v :: l, x, hx => by
  simp only [Q0.wgts]
  rcases List.mem_cons.1 hx with rfl | hx
  ·omega
  ·have := Q8d l x hx; omega
theorem Q5a (code : Int) : 0 ≤ (ofS code).Width ∧ (ofS code).Width.toNat ≤ 16 := by
 cases h : ofB code with
 | false => rw [Qck code h]; decide
 | true =>
  have hw := Q5p code h
  cases hi : (ofS code).Items with
  | false =>
   cases hw.shape hi with
   | sized w hs hw' h12 hk2 hc => rw [hw']; omega
   | wide hs hw' hk2 hc => rw [hw']; decide
   | num w hs hw' hh ht hc hbb => rw [hw']; omega
  | true =>
   obtain ⟨h1, h2⟩ := Wf h hi
   cases hs : (ofS code).Sized with
   | true => have := (h1 hs).1; omega
   | false =>
    have : (ofS code).Width = 0 := (Qi0 (P := fun t => t.2.2.2.2 = true → t.2.2.2.1 = false → t.2.2.1 = 0) (B := fun k => !(Xx k).2.2.2.2 || ((Xx k).2.2.2.1 || decide ((Xx k).2.2.1 = 0))) (by decide +kernel) (fun k hk h1 h2 => by simpa [h1, h2] using hk) h) hi hs
    omega
theorem Qr3 (code : Int) (v : Q0) : (Qqg code v).1.length ≤ v.Text.length + 16 := by
 unfold Qqg
 split
 ·simp
 ·split
  ·simp
  ·rename_i hf
   have hf : Jr code v = true := by simpa using hf
   have := Q16 hf
   have := Q5a code
   simp only []
   split at * <;> omega
theorem Qlz (code : Int) (v : Q0) (b : List UInt8) : (Zw code v b).length ≤ v.Text.length + 16 + b.length := by
 unfold Zw
 split
 ·have := Qr3 code v; omega
 ·rename_i hi
  have hi : (ofS code).Items = true := by simpa using hi
  split
  ·simp
  ·rename_i hs
   have hs : (ofS code).Sized = true := by simpa using hs
   have hw : (ofS code).Width.toNat ≤ 4 := by
    cases h : ofB code with
    | false => rw [Qck code h]; decide
    | true => have := (Wf h hi).1 hs; omega
   simp [Y7]; omega
theorem Q4q (v : Q0) : v.inn.length ≤ 1 + Q0.wgts v.Items ∧ v.byt.length ≤ v.wgt ∧ ∀ c, (Zw c v v.inn).length + 1 ≤ v.wgt := by
 induction v using Q0.ind with
 | h v ih =>
  have s1 : ∀ (l : List Q0), (∀ x ∈ l, x.byt.length ≤ x.wgt) → (l.map Q0.byt).flatten.length ≤ Q0.wgts l := by
   intro l
   induction l with
   | nil => intro _; simp
   | cons x l ihl =>
    intro h
    have h1 := h x (.head _)
    have h2 := ihl (fun y hy => h y (.tail _ hy))
    simp only [List.map_cons, List.flatten_cons, List.length_append, Q0.wgts]; omega
  have s2 : ∀ (c : Int) (l : List Q0), (∀ x ∈ l, ∀ c, (Zw c x x.inn).length + 1 ≤ x.wgt) → (l.map fun x => Zw c x x.inn).flatten.length ≤ Q0.wgts l := by
   intro c l
   induction l with
   | nil => intro _; simp
   | cons x l ihl =>
    intro h
    have h1 := h x (.head _) c
    have h2 := ihl (fun y hy => h y (.tail _ hy))
    simp only [List.map_cons, List.flatten_cons, List.length_append, Q0.wgts]; omega
  have hin : v.inn.length ≤ 1 + Q0.wgts v.Items := by
   rw [Q3k]
   split
   ·have := s2 v.elm v.Items (fun x hx => (ih x hx).2.2)
    simp only [List.length_cons]; omega
   ·split
    ·simp
    ·have := s1 v.Items (fun x hx => (ih x hx).2.1)
     omega
  have hd : ∀ c, (Zw c v v.inn).length + 1 ≤ v.wgt := fun c => by
   have := Qlz c v v.inn
   rw [v.wgt_eq]; omega
  refine ⟨hin, ?_, hd⟩
  rw [Qav]
  split
  ·have := s1 v.Items (fun x hx => (ih x hx).2.1)
   rw [v.wgt_eq]; simp only [List.length_cons]; omega
  ·have := hd v.cod
   simp only [List.length_cons]; omega
end
end Go.Av
namespace Go.Av
noncomputable section
open Go.Proofs
set_option maxRecDepth 100000
theorem Q6c {rd : List UInt8 → Rd} {e : Q0 → List UInt8} : ∀ (l acc : List Q0) (rest : List UInt8), (∀ x ∈ l, ∀ t, rd (e x ++ t) = (x, ((e x).length : Int), 0)) → X9 rd l.length ((l.map e).flatten ++ rest) acc = ((acc ++ l, rest), 0)
 | [], acc, rest, _ => by simp [X9]
 | x :: l, acc, rest, h => by
  have h1 := h x (.head _) ((l.map e).flatten ++ rest)
  rw [List.length_cons, X9, List.map_cons, List.flatten_cons, List.append_assoc, h1]
  simp only [ne_eq, not_true_eq_false, if_false, Int.toNat_natCast, List.drop_left]
  rw [Q6c l (acc ++ [x]) rest (fun y hy => h y (.tail _ hy))]
  simp
theorem Q8y {c : Int} (h : 0 ≤ c ∧ c < 256) : ((Q7w c).toNat : Int) = c := by
 unfold Q7w
 rw [UInt8.toNat_ofNat']
 omega
theorem of0 : ofB 0 = true ∧ (ofS 0).Kind = 25 ∧ (ofS 0).Items = true := by decide +kernel
theorem Qb7 {code : Int} (h : ofB code = true) (hi : (ofS code).Items = true) (hs : (ofS code).Sized = false) : (ofS code).Width = 0 :=
 (Qi0 (P := fun t => t.2.2.2.2 = true → t.2.2.2.1 = false → t.2.2.1 = 0) (B := fun k => !(Xx k).2.2.2.2 || ((Xx k).2.2.2.1 || decide ((Xx k).2.2.1 = 0))) (by decide +kernel) (fun k hk h1 h2 => by simpa [h1, h2] using hk) h) hi hs
theorem Qid {k num : Int} {l : List Q0} {tot : Nat} (hk : Q0y ⟨k, num, [], l⟩ = 0) : Q7p k num ((l, []), 0) tot = (⟨k, num, [], l⟩, (tot : Int), 0) := by
 unfold Q7p
 rw [if_neg (by simp), if_neg (by simp), if_neg (by simp [hk])]
theorem Qn2 {n w : Nat} (s : List UInt8) (h : n < 256 ^ w) : Jq ((Ua n w ++ s).take w) = n := by
 rw [List.take_left' (Y7 w n), Q57, Nat.mod_eq_of_lt h]
theorem Qjn {d : Int → List UInt8 → Rd} {c : Qd} {v : Q0} {w : Nat} (hw : c.Width = (w : Int)) (hk : c.Kind = v.Kind) (hs : c.Sized = true) (hn : v.Items.length < 256 ^ w) (hl : v.inn.length + w < 256 ^ w) (hn2 : v.Items.length ≤ 1000)
  (h23 : v.Kind = 23 → v.Items.length % 2 = 0) (hkeys : Q0y v = 0) (ht : v.Text = []) (hnum : v.Kind ≠ 24 → v.N' = 0)
  (h24 : v.Kind = 24 → ofB v.elm = true ∧ v.elm ≠ 0 ∧ (ofS v.elm).Kind = v.N' ∧ ∀ x ∈ v.Items, ∀ t, d v.elm (Zw v.elm x x.inn ++ t) = (x, ((Zw v.elm x x.inn).length : Int), 0))
  (hot : v.Kind ≠ 24 → v.Kind ≠ 25 ∧ ∀ x ∈ v.Items, ∀ t, Z8 d (x.byt ++ t) = (x, (x.byt.length : Int), 0)) (s : List UInt8) :
  Q13 d c (Ua (v.inn.length + w) w ++ (Ua v.Items.length w ++ v.inn) ++ s) = (v, ((Ua (v.inn.length + w) w ++ (Ua v.Items.length w ++ v.inn)).length : Int), 0) := by
 have hwn : c.Width.toNat = w := by rw [hw]; rfl
 have e0 : (Ua (v.inn.length + w) w ++ (Ua v.Items.length w ++ v.inn) ++ s) = Ua (v.inn.length + w) w ++ ((Ua v.Items.length w ++ v.inn) ++ s) := by rw [List.append_assoc]
 have hlen : (Ua (v.inn.length + w) w ++ ((Ua v.Items.length w ++ v.inn) ++ s)).length = w + (w + v.inn.length + s.length) := by simp [Y7]; omega
 unfold Q13
 rw [hwn, e0, Qn2 _ hl, if_neg (by rw [hlen]; omega), if_neg (by rw [hlen]; omega), List.drop_left' (Y7 w _),
  List.take_left' (show (Ua v.Items.length w ++ v.inn).length = v.inn.length + w by simp [Y7]; omega)]
 unfold Qj3
 rw [if_neg (by simp [Y7]), Qn2 _ hn, if_neg (by omega), if_neg (by rw [hk]; intro h; exact h.2 (h23 h.1)), List.drop_left' (Y7 w _)]
 have hv : ∀ num, num = v.N' → (⟨c.Kind, num, [], v.Items⟩ : Q0) = v := fun num h => by
  apply Q0.ext' <;> simp [hk, ht, h]
 have htot : ((w + (v.inn.length + w) : Nat) : Int) = ((Ua (v.inn.length + w) w ++ (Ua v.Items.length w ++ v.inn)).length : Int) := by simp [Y7]; omega
 by_cases h4 : v.Kind = 24
 ·obtain ⟨g1, g2, g3, g4⟩ := h24 h4
  have hr := Q38 g1
  rw [if_pos (by omega)]
  have hin := Q3k v
  rw [if_pos h4] at hin
  rw [hin]
  simp only [Qrt]
  rw [← hin, Q8y hr, if_neg (by
   rintro (h | h)
   ·rw [g1] at h; cases h
   ·have := Q8y hr; omega)]
  have := Q6c (rd := d v.elm) (e := fun x => Zw v.elm x x.inn) v.Items [] [] g4
  rw [List.append_nil, List.nil_append] at this
  rw [this, Qid (by rw [hv _ g3]; exact hkeys), hv _ g3, htot]
 ·obtain ⟨g1, g2⟩ := hot h4
  rw [if_neg (by omega)]
  have hin := Q3k v
  rw [if_neg h4, if_neg g1] at hin
  have := Q6c (rd := Z8 d) (e := Q0.byt) v.Items [] [] g2
  rw [List.append_nil, List.nil_append, ← hin] at this
  rw [this, Qid (by rw [hv 0 (hnum h4).symm]; exact hkeys), hv 0 (hnum h4).symm, htot]
theorem Qkv {v x : Q0} (hx : x ∈ v.Items) : x.wgt ≤ v.wgt := by
 have := Q8d _ x hx
 rw [v.wgt_eq]; omega
theorem Qp5 (v : Q0) : ∀ m : Nat, Fine v → Yq v m = 0 → v.wgt < 4000000000 →
  (∀ c, ofB c = true → (ofS c).Kind = v.Kind → v.Kind ≠ 25 → Uq c v v.inn = true → ∀ s, Ym m c (Zw c v v.inn ++ s) = (v, ((Zw c v v.inn).length : Int), 0)) ∧
  ∀ s, Z8 (Ym m) (v.byt ++ s) = (v, (v.byt.length : Int), 0) := by
 induction v using Q0.ind with
 | h v ih =>
  intro m hf hc hw
  have hP : ∀ c, ofB c = true → (ofS c).Kind = v.Kind → v.Kind ≠ 25 → Uq c v v.inn = true → ∀ s, Ym m c (Zw c v v.inn ++ s) = (v, ((Zw c v v.inn).length : Int), 0) := by
   intro c c1 c2 c3 c4 s
   rcases Uz hc with ⟨k1, k2, k3⟩ | ⟨k1, k2, k3, k4, k5, k6, k7⟩
   ·have hi := Ul (Q5p c c1) (by omega)
    unfold Uq at c4
    rw [if_pos hi] at c4
    have hd : Zw c v v.inn = Jh (ofS c) v := by unfold Zw; rw [if_pos hi, Qle c4]
    rw [hd, Q3m c1 hi]
    exact Qsk hf.num c4 s
   ·obtain ⟨m', rfl⟩ : ∃ m', m = m' + 1 := ⟨m - 1, by omega⟩
    have hi : (ofS c).Items = true := by rw [(Q5p c c1).items, c2]; simp; omega
    obtain ⟨s1, s2, s3, s4, s5⟩ := Q08 k4
    have hit : ∀ x ∈ v.Items, Yq x ((m' : Nat) : Int) = 0 := fun x hx => by
     have := (k7 x hx).1
     rwa [show (((m' + 1 : Nat) : Int) - 1) = (m' : Int) by omega] at this
    rw [Q4b c1 hi, Qes, if_neg (by omega)]
    unfold Uq at c4
    rw [if_neg (by simp [hi])] at c4
    obtain ⟨q1, q2⟩ := Wf c1 hi
    have hlen := (Q4q v).1
    rw [v.wgt_eq] at hw
    by_cases hs : (ofS c).Sized = true
    ·rw [if_neg (by simp [hs])]
     have hd : Zw c v v.inn = Ua (v.inn.length + (ofS c).Width.toNat) (ofS c).Width.toNat ++ (Ua v.Items.length (ofS c).Width.toNat ++ v.inn) := by
      unfold Zw
      rw [if_neg (by simp [hi]), if_neg (by simp [hs])]
     rw [hd]
     obtain ⟨w1, w2⟩ := q1 hs
     have c5 : (ofS c).Width = 4 ∨ (v.Items.length < 256 ∧ v.inn.length + 1 < 256) := by
      rw [if_neg (by omega)] at c4
      simpa using c4
     refine Qjn (w := (ofS c).Width.toNat) (by have := Q5a c; omega) c2 hs ?_ ?_ k5 s5 k6 s1 s3 (fun h4 => ?_) (fun h4 => ⟨c3, fun x hx t => (ih x hx m' (hf.items x hx) (hit x hx) (by have := Q8d _ x hx; omega)).2 t⟩) s
     ·rcases w1 with w1 | w1
      ·rw [w1] at c5 ⊢; show v.Items.length < 256 ^ 1; omega
      ·rw [w1]; show v.Items.length < 256 ^ 4; omega
     ·rcases w1 with w1 | w1
      ·rw [w1] at c5 ⊢; show v.inn.length + 1 < 256 ^ 1; omega
      ·rw [w1]; show v.inn.length + 4 < 256 ^ 4; omega
     ·obtain ⟨e1, e2⟩ := Qmt hf hc h4
      obtain ⟨d1, d2, d3⟩ := Q0d _ _ e1
      have hnn := s2 h4
      refine ⟨d1, fun h0 => ?_, d3, fun x hx t => ?_⟩
      ·rw [h0] at d3
       have := of0.2.1
       omega
      ·have hkx : x.Kind = v.N' := by
        have := (k7 x hx).2 h4
        rwa [Q1n (k7 x hx).1] at this
       exact (ih x hx m' (hf.items x hx) (hit x hx) (by have := Q8d _ x hx; omega)).1 v.elm d1 (by rw [d3, hkx]) (by omega) (e2 x hx) t
    ·have hs : (ofS c).Sized = false := by simpa using hs
     rw [if_pos hs]
     have hw0 := Qb7 c1 hi hs
     rw [if_pos hw0] at c4
     have hl0 : v.Items = [] := List.length_eq_zero_iff.1 (by simpa using c4)
     have hk := q2 hs
     have hd : Zw c v v.inn = [] := by
      unfold Zw
      rw [if_neg (by simp [hi]), if_pos hs]
     rw [hd]
     have hve : (⟨(ofS c).Kind, 0, [], []⟩ : Q0) = v := by
      apply Q0.ext' <;> simp [c2, s1, hl0]
      exact (s3 (by omega)).symm
     rw [hve]; rfl
  refine ⟨hP, fun s => ?_⟩
  by_cases h5 : v.Kind = 25
  ·rcases Uz hc with ⟨k1, k2, k3⟩ | ⟨k1, k2, k3, k4, k5, k6, k7⟩
   ·omega
   obtain ⟨m', rfl⟩ : ∃ m', m = m' + 1 := ⟨m - 1, by omega⟩
   obtain ⟨s1, s2, s3, s4, s5⟩ := Q08 k4
   rw [Qav, if_pos h5, List.cons_append, Z8]
   obtain ⟨o1, o2, o3⟩ := of0
   have hz : (((0 : UInt8).toNat : Nat) : Int) = 0 := rfl
   rw [hz, Q4b o1 o3, Qes, if_pos o2]
   have hr := Q6c (rd := Z8 (Ym m')) (e := Q0.byt) v.Items [] s (fun x hx t => (ih x hx m' (hf.items x hx) (by
    have := (k7 x hx).1
    rwa [show (((m' + 1 : Nat) : Int) - 1) = (m' : Int) by omega] at this) (by have := Qkv hx; omega)).2 t)
   rw [s4 h5, List.nil_append] at hr
   have hv : (⟨25, 0, [], v.Items⟩ : Q0) = v := by
    apply Q0.ext' <;> simp [h5, s1]
    exact (s3 (by omega)).symm
   unfold Qc7
   rw [hr, if_neg (by simp), hv, if_neg (by simp)]
   simp only [Prod.mk.injEq, true_and, and_true]
   simp
  ·obtain ⟨g1, g2⟩ := Qhh hf hc h5
   obtain ⟨d1, d2, d3⟩ := Q0d _ _ g1
   rw [Qav, if_neg h5, List.cons_append, Z8, Q8y (Q38 d1), hP v.cod d1 d3 h5 g2 s, if_neg (by simp)]
   simp
end
end Go.Av
namespace Go.Av
noncomputable section
open Go.Proofs
set_option maxRecDepth 100000
def Q1j (v : Q0) : Int := if nnS v = true then (if v.Kind = 11 then 2143289344 else 9221120237041090560) else v.N'
mutual
def Q0.nrm : Q0 → Q0
 | .mk k n t is => ⟨k, Q1j ⟨k, n, t, is⟩, t, Q0.nrms is⟩
def Q0.nrms : List Q0 → List Q0
 | [] => []
 | v :: l => v.nrm :: Q0.nrms l
end
theorem Qkl : ∀ l, Q0.nrms l = l.map Q0.nrm
 | [] => rfl
 | v :: l => by rw [Q0.nrms, Qkl l]; rfl
theorem Q5q (v : Q0) : v.nrm = ⟨v.Kind, Q1j v, v.Text, v.Items.map Q0.nrm⟩ := by cases v; rw [Q0.nrm, Qkl]
theorem Vr (v : Q0) : v.nrm.Kind = v.Kind := by rw [Q5q]
theorem Q4c (v : Q0) : v.nrm.Text = v.Text := by rw [Q5q]
theorem Wn (v : Q0) : v.nrm.Items = v.Items.map Q0.nrm := by rw [Q5q]
theorem Q1g (v : Q0) : v.nrm.N' = Q1j v := by rw [Q5q]
theorem Qvi (x : Int) : Q5 .neq x 0 = decide (x ≠ 0) := by rw [Bool.eq_iff_iff, U9]; simp
theorem Q7e (v : Q0) : nnS v = ((decide (v.Kind = 11) && (decide (Q36 .u64 (Q2d .u64 v.N' 23) 255 = 255) && decide (J8 .u64 v.N' 41 ≠ 0))) || (decide (v.Kind = 12) && (decide (Q36 .u64 (Q2d .u64 v.N' 52) 2047 = 2047) && decide (J8 .u64 v.N' 12 ≠ 0)))) := by
 have h := Qqs 0 v
 unfold Zk at h
 simp only [Qa, Ww] at h
 by_cases k1 : v.Kind = 11
 ·have k2 : ¬ v.Kind = 12 := by omega
  rw [if_pos k1] at h
  split at h
  ·rename_i h1
   simp only [Option.some.injEq] at h
   rw [← h]
   rw [Qvi]
   simp [k1, h1]
  ·rename_i h1
   simp only [Option.some.injEq] at h
   rw [← h]
   simp [k1, h1]
 ·rw [if_neg k1] at h
  by_cases k2 : v.Kind = 12
  ·rw [if_pos k2] at h
   split at h
   ·rename_i h1
    simp only [Option.some.injEq] at h
    rw [← h]
    rw [Qvi]
    simp [k2, h1]
   ·rename_i h1
    simp only [Option.some.injEq] at h
    rw [← h]
    simp [k2, h1]
  ·rw [if_neg k2] at h
   simp only [Option.some.injEq] at h
   rw [← h]
   simp [k1, k2]
theorem Q7c {v : Q0} (h : nnS v = true) : v.Kind = 11 ∨ v.Kind = 12 := by
 rw [Q7e] at h
 simp only [Bool.or_eq_true, Bool.and_eq_true, decide_eq_true_eq] at h
 omega
theorem Q8p {v w : Q0} (h1 : v.Kind = w.Kind) (h2 : v.N' = w.N') : nnS v = nnS w := by rw [Q7e, Q7e, h1, h2]
theorem Qbz (k : Int) (t : List UInt8) (is : List Q0) (h : k = 11 ∨ k = 12) : nnS ⟨k, if k = 11 then 2143289344 else 9221120237041090560, t, is⟩ = true := by
 rcases h with rfl | rfl
 ·exact (Q8p (w := ⟨11, 2143289344, [], []⟩) rfl rfl).trans (by rw [Q7e]; decide)
 ·exact (Q8p (w := ⟨12, 9221120237041090560, [], []⟩) rfl rfl).trans (by rw [Q7e]; decide)
theorem Qmr {v : Q0} (h : nnS v = true) : Q1j v = if v.Kind = 11 then 2143289344 else 9221120237041090560 := by unfold Q1j; rw [if_pos h]
theorem Q90 {v : Q0} (h : nnS v = false) : Q1j v = v.N' := by unfold Q1j; rw [if_neg (by simp [h])]
theorem Qpq (v : Q0) : nnS v.nrm = nnS v := by
 cases h : nnS v with
 | true =>
  have hk := Q7c h
  rw [Q5q]
  unfold Q1j
  rw [if_pos h]
  exact Qbz _ _ _ hk
 | false =>
  rw [← h]
  refine Q8p (Vr v) ?_
  rw [Q1g]
  unfold Q1j
  rw [if_neg (by simp [h])]
theorem Qr5 (v : Q0) : v.nrm.nrm = v.nrm := by
 induction v using Q0.ind with
 | h v ih =>
  apply Q0.ext'
  ·rw [Vr]
  ·rw [Q1g, Q1g]
   have h1 : Q1j v.nrm = if nnS v = true then (if v.Kind = 11 then 2143289344 else 9221120237041090560) else Q1j v := by
    conv => lhs; unfold Q1j
    rw [Qpq, Vr, Q1g]
   rw [h1]
   split
   ·rename_i h; unfold Q1j; rw [if_pos h]
   ·rfl
  ·rw [Q4c]
  ·rw [Wn, Wn, List.map_map]
   apply List.map_congr_left
   intro x hx
   exact ih x hx
theorem Qhe (v : Q0) : v.nrm.sz = v.sz := by
 induction v using Q0.ind with
 | h v ih =>
  have hl : ∀ l : List Q0, (∀ x ∈ l, x.nrm.sz = x.sz) → Q0.szs (l.map Q0.nrm) = Q0.szs l := by
   intro l
   induction l with
   | nil => intro _; rfl
   | cons x l ihl => intro h; simp only [List.map_cons, Q0.szs, h x (.head _), ihl (fun y hy => h y (.tail _ hy))]
  rw [Q0.sz_eq, Wn, hl _ ih, v.sz_eq]
theorem Qca (v : Q0) : v.nrm.wgt = v.wgt := by
 induction v using Q0.ind with
 | h v ih =>
  have hl : ∀ l : List Q0, (∀ x ∈ l, x.nrm.wgt = x.wgt) → Q0.wgts (l.map Q0.nrm) = Q0.wgts l := by
   intro l
   induction l with
   | nil => intro _; rfl
   | cons x l ihl => intro h; simp only [List.map_cons, Q0.wgts, h x (.head _), ihl (fun y hy => h y (.tail _ hy))]
  rw [Q0.wgt_eq, Wn, hl _ ih, v.wgt_eq, Q4c]
theorem Qpk {v : Q0} (h : okU v.N') : okU (Q1j v) := by
 unfold Q1j
 split
 ·split <;> exact ⟨by omega, by omega⟩
 ·exact h
theorem Qcg {v : Q0} (h : Fine v) : Fine v.nrm := by
 induction v using Q0.ind with
 | h v ih =>
  refine .mk _ (by rw [Q1g]; exact Qpk h.num) (by rw [Q4c]; exact h.text) (fun x hx => ?_)
  rw [Wn] at hx
  obtain ⟨y, hy, rfl⟩ := List.mem_map.1 hx
  exact ih y hy (h.items y hy)
theorem Q65 {v : Q0} (h : v.Kind ≠ 11 ∧ v.Kind ≠ 12) : Q1j v = v.N' := by
 unfold Q1j
 rw [if_neg (fun hn => by have := Q7c hn; omega)]
theorem Qdj : ∀ (n : Nat) (a b : Q0), a.sz ≤ n → Q1c a.nrm b.nrm = true → Q1c a b = true
 | 0, a, b, h, _ => by have := a.sz_eq; omega
 | n + 1, a, b, h, hh => by
  have hs := a.sz_eq
  rw [Q91] at hh ⊢
  simp only [Vr, Q4c, Wn, Q1g, Qpq, List.length_map, Bool.and_eq_true, Bool.or_eq_true, decide_eq_true_eq] at hh ⊢
  obtain ⟨h1, h2, h3, h4, h5⟩ := hh
  refine ⟨h1, h2, h3, ?_, ?_⟩
  ·rcases h4 with h4 | h4
   ·cases na : nnS a <;> cases nb : nnS b
    ·left; rw [Q90 na, Q90 nb] at h4; exact h4
    ·rw [Q90 na, Qmr nb] at h4
     have hk := Q7c nb
     have : nnS a = true := by
      rw [← Qbz a.Kind [] [] (by omega)]
      refine Q8p rfl ?_
      show a.N' = _
      rw [h4, h1]
     rw [na] at this; cases this
    ·rw [Qmr na, Q90 nb] at h4
     have hk := Q7c na
     have : nnS b = true := by
      rw [← Qbz b.Kind [] [] (by omega)]
      refine Q8p rfl ?_
      show b.N' = _
      rw [← h4, h1]
     rw [nb] at this; cases this
    ·right; exact ⟨rfl, rfl⟩
   ·right; exact h4
  ·have hl : ∀ (l m : List Q0), Q0.szs l ≤ n → Q0t (l.map Q0.nrm) (m.map Q0.nrm) = true → Q0t l m = true := by
    intro l
    induction l with
    | nil => intro m _ _; rfl
    | cons x l ihl =>
     intro m hz hm
     simp only [Q0.szs] at hz
     cases m with
     | nil => simp [Q0t] at hm
     | cons y m =>
      simp only [List.map_cons, Q0t, Bool.and_eq_true] at hm ⊢
      exact ⟨Qdj n x y (by omega) hm.1, ihl m (by omega) hm.2⟩
   exact hl _ _ (by omega) h5
theorem Qo4 {v : Q0} (h : Q0y v = 0) : Q0y v.nrm = 0 := by
 unfold Q0y at h ⊢
 rw [Vr]
 split
 ·rfl
 ·rename_i hk
  rw [if_neg hk] at h
  split at h
  ·cases h
  ·rename_i hne
   rw [if_neg]
   rintro ⟨i, j, h1, h2, h3, h4, h5, x, y, hx, hy, ha⟩
   rw [Wn, List.length_map] at h3
   rw [Wn, List.getElem?_map] at hx hy
   cases hxi : v.Items[i]? with
   | none => rw [hxi] at hx; cases hx
   | some x' =>
    cases hyi : v.Items[j]? with
    | none => rw [hyi] at hy; cases hy
    | some y' =>
     rw [hxi] at hx; rw [hyi] at hy
     cases hx; cases hy
     exact hne ⟨i, j, h1, h2, h3, h4, h5, x', y', hxi, hyi, Qdj _ x' y' (Nat.le_refl _) ha⟩
theorem Ql5 {v : Q0} (h : Q61 v.Kind v.N' = true) : Q61 v.Kind (Q1j v) = true := by
 unfold Q1j
 split
 ·rename_i hn
  rcases Q7c hn with hk | hk <;> rw [hk] <;> decide
 ·exact h
theorem Qbn {v : Q0} (h : U0 v = 0) : U0 v.nrm = 0 := by
 obtain ⟨c1, c2, c3, c4, c5, c6, c7⟩ := U6 h
 unfold U0 at h ⊢
 simp only [Vr, Q4c, Wn, Q1g, c4, List.map_nil] at h ⊢
 rw [Ql5 c3]
 rw [c3] at h
 exact h
theorem Qjd {v : Q0} (hk : 22 ≤ v.Kind) (h : Gf v = true) : Gf v.nrm = true := by
 obtain ⟨s1, s2, s3, s4, s5⟩ := Q08 h
 have : v.nrm = ⟨v.Kind, v.N', [], v.Items.map Q0.nrm⟩ := by rw [Q5q, Q65 (by omega), s1]
 rw [this]
 exact Qem s2 s3 (fun h => by rw [List.length_map]; exact s4 h) (fun h => by rw [List.length_map]; exact s5 h)
theorem Q9a (v : Q0) : ∀ m : Int, Yq v m = 0 → Yq v.nrm m = 0 := by
 induction v using Q0.ind with
 | h v ih =>
  intro m h
  rcases Uz h with ⟨k1, k2, k3⟩ | ⟨k1, k2, k3, k4, k5, k6, k7⟩
  ·rw [Q1u, Vr, if_neg (by omega), if_neg (by omega), if_pos k2]
   exact Qbn k3
  ·rw [Q1u, Vr, if_neg (by omega), if_neg (by omega), if_neg (by omega), if_neg k3, Qjd k1 k4, if_neg (by simp), Wn, List.length_map, if_neg (by omega), Qo4 k6, Q1g, Q65 (by omega)]
   refine Q6o _ _ _ _ (fun x hx => ?_)
   obtain ⟨y, hy, rfl⟩ := List.mem_map.1 hx
   refine ⟨ih y hy _ (k7 y hy).1, fun hk => ?_⟩
   rw [Vr]; exact (k7 y hy).2 hk
theorem Qks {R : Q0 → Option Q0} {N : Nat} {v : Q0} {c : Int} (hb : v.sz < 1000000000) (hR : ∀ y ∈ v.Items, R y = some y.nrm) : ∀ (n i : Nat), i ≤ v.Items.length → v.Items.length - i < n →
  V1 R N v c n (i : Int) ((v.Items.take i).map Q0.nrm) = some ⟨v.Kind, c, v.Text, v.Items.map Q0.nrm⟩
 | 0, i, _, h => by omega
 | n + 1, i, hi, hn => by
  have hs := v.sz_eq
  have hl := Q0.szs_len v.Items
  simp only [V1, Qa, Ve, Wd, Wo]
  by_cases h : i < v.Items.length
  ·rw [if_pos (by omega), List.getElem?_eq_getElem h]
   simp only [Option.bind_some, hR _ (List.getElem_mem h)]
   rw [if_pos (by rw [Nat.ble_eq, List.length_map, List.length_take]; omega), Qv _ (by omega)]
   have e : (v.Items.take i).map Q0.nrm ++ [v.Items[i].nrm] = (v.Items.take (i + 1)).map Q0.nrm := by
    rw [List.take_succ_eq_append_getElem h, List.map_append]; rfl
   rw [e]
   exact_mod_cast Qks (N := N) hb hR n (i + 1) (by omega) (by omega)
  ·rw [if_neg (by omega), List.take_of_length_le (by omega)]
theorem Qm2 : ∀ (N : Nat) (v : Q0), v.sz < N → v.sz < 1000000000 → Wm N v = some v.nrm
 | 0, v, h, _ => by omega
 | N + 1, v, h, h2 => by
  have hs := v.sz_eq
  have hl := Q0.szs_len v.Items
  have hL : ∀ c, Xa (Wm N) N v c = some ⟨v.Kind, c, v.Text, v.Items.map Q0.nrm⟩ := fun c =>
   Qks (R := Wm N) (N := N) (v := v) h2 (fun y hy => Qm2 N y (by have := Q0.szs_mem _ y hy; omega) (by have := Q0.szs_mem _ y hy; omega)) N 0 (by omega) (by omega)
  rw [Q5q]
  show Uv (Wm N) N v = _
  simp only [Uv, V4, V2, hL, Qa, Ww, U9]
  have hd := Q7e v
  unfold Q1j
  by_cases k1 : v.Kind = 11
  ·have k2 : ¬ v.Kind = 12 := by omega
   simp only [k1, decide_true, Bool.true_and, show decide ((11 : Int) = 12) = false from rfl, Bool.false_and, Bool.or_false] at hd
   simp only [if_pos k1, if_neg k2]
   by_cases q1 : Q36 .u64 (Q2d .u64 v.N' 23) 255 = 255 <;> by_cases q2 : J8 .u64 v.N' 41 ≠ 0 <;> simp [hd, q1, q2]
  ·simp only [if_neg k1]
   by_cases k2 : v.Kind = 12
   ·simp only [k2, show decide ((12 : Int) = 11) = false from rfl, decide_true, Bool.true_and, Bool.false_and, Bool.false_or] at hd
    simp only [if_pos k2]
    by_cases q1 : Q36 .u64 (Q2d .u64 v.N' 52) 2047 = 2047 <;> by_cases q2 : J8 .u64 v.N' 12 ≠ 0 <;> simp [hd, q1, q2]
   ·simp only [k1, k2, decide_false, Bool.false_and, Bool.or_false] at hd
    simp [hd, k2]
end
end Go.Av
namespace Go.Av
noncomputable section
open Go.Proofs
set_option maxRecDepth 100000
end
end Go.Av
