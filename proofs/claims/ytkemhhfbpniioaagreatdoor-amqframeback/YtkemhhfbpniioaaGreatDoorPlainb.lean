/- The law. Part of a proof of a given statement: for every input the law returns true and the arguments read as before; no condition beyond the given row. -/
import Derived.Test.YtkemhhfbpniioaaGreatDoorPlain
import Derived.Test.YtkemhhfbpniioaaGreatDoorLiftF5
namespace Go.Av
noncomputable section
open Go.Proofs
set_option maxRecDepth 100000
def Qoe (k : Nat) : Bool := !(W5 k).2.2.2.2 || (if (W5 k).2.2.2.1 then decide (((W5 k).2.2.1 = 1 ∨ (W5 k).2.2.1 = 4) ∧ 22 ≤ (W5 k).2.1 ∧ (W5 k).2.1 ≤ 24) else decide ((W5 k).2.1 = 25 ∨ (W5 k).2.1 = 22))
theorem Qjh : ((List.range 40).all Qoe) = true := by decide +kernel
theorem Qpc {P : Int × Int × Int × Bool × Bool → Prop} {B : Nat → Bool} (hB : ((List.range 40).all B) = true) (hP : ∀ k, B k = true → P (W5 k)) {code : Int} (h : ofB code = true) : P (ofT code) := by
 have h1 : bsI code < 40 ∧ Uc (bsI code) = code := by simpa [ofB] using h
 have := List.all_eq_true.1 hB (bsI code) (by simpa using h1.1)
 have e : ofT code = W5 (bsI code) := by unfold ofT; rw [if_pos h]
 rw [e]; exact hP _ this
theorem Vq {code : Int} (h : ofB code = true) (hi : (ofS code).Items = true) : ((ofS code).Sized = true → ((ofS code).Width = 1 ∨ (ofS code).Width = 4) ∧ 22 ≤ (ofS code).Kind ∧ (ofS code).Kind ≤ 24) ∧ ((ofS code).Sized = false → (ofS code).Kind = 25 ∨ (ofS code).Kind = 22) :=
 Qpc (P := fun t => t.2.2.2.2 = true → (t.2.2.2.1 = true → (t.2.2.1 = 1 ∨ t.2.2.1 = 4) ∧ 22 ≤ t.2.1 ∧ t.2.1 ≤ 24) ∧ (t.2.2.2.1 = false → t.2.1 = 25 ∨ t.2.1 = 22)) Qjh (fun k hk h1 => by
  simp only [Qoe, h1, Bool.not_true, Bool.false_or] at hk
  refine ⟨fun h2 => ?_, fun h2 => ?_⟩
  ·rw [h2] at hk; simpa using hk
  ·rw [h2] at hk; simpa using hk) h hi
theorem Qk1 {R : List UInt8 → Int → Option Rd} {N : Nat} {most : Int} {rd : List UInt8 → Rd} {text : List UInt8} (hm : 1 ≤ most ∧ most ≤ 32) (ht : text.length ≤ 600000) (hN : 100 < N) (hR : ∀ s, s.length ≤ text.length → R s (most - 1) = some (rd s)) (hg : Qn1 rd) :
  ∀ (n i at' : Nat) (l : List Q0), i ≤ 2 → 2 - i < n → at' ≤ text.length → l.length = i →
  Zk R N most n (i : Int) text (at' : Int) 0 l = some (if (Vl rd (2 - i) (text.drop at') l).2 ≠ 0 then (Jy, 0, (Vl rd (2 - i) (text.drop at') l).2) else (⟨25, 0, [], (Vl rd (2 - i) (text.drop at') l).1.1⟩, ((text.length - (Vl rd (2 - i) (text.drop at') l).1.2.length : Nat) : Int), 0))
 | 0, i, at', l, _, h, _, _ => by omega
 | n + 1, i, at', l, hi, hn, ha, hl => by
  simp only [Zk, Q9, Vh, V0, U8, Qba N text at' 0 ha, Option.bind_some, Qx (most - 1) (show _ by omega), hR (text.drop at') (by rw [List.length_drop]; omega)]
  by_cases hic : i < 2
  ·rw [if_pos (by omega)]
   obtain ⟨k, hk⟩ : ∃ k, 2 - i = k + 1 := ⟨2 - i - 1, by omega⟩
   rw [hk, Vl]
   have hgd := hg (text.drop at') (by rw [List.length_drop]; omega)
   generalize hr : rd (text.drop at') = r at hgd ⊢
   obtain ⟨x, m, e⟩ := r
   simp only [] at hgd ⊢
   by_cases he : e = 0
   ·subst he
    obtain ⟨g1, g2, g3⟩ := hgd rfl
    rw [List.length_drop] at g2
    obtain ⟨mm, rfl⟩ := Int.eq_ofNat_of_zero_le g1
    rw [if_pos rfl, Q18 N text at' mm (by unfold Q8s; omega) ha (by omega), if_pos (by omega)]
    simp only [Option.bind_some]
    rw [if_neg (by simp), if_pos (by simp [Nat.ble_eq]; omega), Qx _ (by omega), if_neg (show ¬ ((0 : Int) ≠ 0) by simp)]
    have ih := Qk1 hm ht hN hR hg n (i + 1) (at' + mm) (l ++ [x]) (by omega) (by omega) (by omega) (by simp [hl])
    rw [show ((i : Int) + 1) = ((i + 1 : Nat) : Int) by push_cast; rfl, ih, show 2 - (i + 1) = k by omega, Q4x ha]
    simp only [Int.toNat_natCast]
   ·rw [if_neg he, if_pos (show e ≠ 0 from he), if_pos (show e ≠ 0 from he)]
    simp only []
    rw [if_pos (show e ≠ 0 from he)]; rfl
  ·rw [if_neg (by omega), show 2 - i = 0 by omega, Vl]
   simp only [Qh, Option.bind_some]
   rw [if_neg (show ¬ ((0 : Int) ≠ 0) by simp), List.length_drop]
   congr 3
   omega
theorem Q6q {rd : List UInt8 → Rd} {lo : Nat} (hg : Qn1 rd) (hlo : ∀ s, s.length ≤ 600000 → (rd s).2.2 = 0 → (lo : Int) ≤ (rd s).2.1 ∧ (rd s).1.sz + 1000 * lo ≤ 1 + 1000 * (rd s).2.1.toNat) : ∀ (c : Nat) (s : List UInt8) (acc : List Q0), s.length ≤ 600000 → (Vl rd c s acc).2 = 0 →
  ∃ k, k ≤ s.length ∧ (Vl rd c s acc).1.2 = s.drop k ∧ Q0.szs (Vl rd c s acc).1.1 + 1000 * (lo * c) ≤ Q0.szs acc + c + 1000 * k ∧ (Vl rd c s acc).1.1.length = acc.length + c ∧ lo * c ≤ k
 | 0, s, acc, _, _ => ⟨0, by omega, by simp [Vl], by simp [Vl], by simp [Vl], by simp⟩
 | c + 1, s, acc, hs, h => by
  rw [Vl] at h ⊢
  split at h
  ·rename_i he; exact absurd h he
  ·rename_i he
   rw [if_neg he]
   obtain ⟨g0, g0'⟩ := hlo s hs (Classical.byContradiction he)
   obtain ⟨g1, g2, g3⟩ := hg s hs (Classical.byContradiction he)
   obtain ⟨k, k1, k2, k3, k4, k5⟩ := Q6q hg hlo c (s.drop (rd s).2.1.toNat) (acc ++ [(rd s).1]) (by rw [List.length_drop]; omega) h
   rw [List.length_drop] at k1
   refine ⟨(rd s).2.1.toNat + k, by omega, by rw [k2, List.drop_drop], ?_, by rw [k4]; simp; omega, by rw [Nat.mul_succ]; omega⟩
   rw [Q0.szs_app] at k3
   rw [Nat.mul_succ]
   simp only [Q0.szs] at k3
   omega
theorem Q2c {data : Int → List UInt8 → Rd} (h : ∀ code, Qn1 (data code)) : Qn1 (Yn data) ∧ ∀ s, s.length ≤ 600000 → (Yn data s).2.2 = 0 → ((1 : Nat) : Int) ≤ (Yn data s).2.1 ∧ (Yn data s).1.sz + 1000 * 1 ≤ 1 + 1000 * (Yn data s).2.1.toNat := by
 have key : ∀ s, s.length ≤ 600000 → (Yn data s).2.2 = 0 → 1 ≤ (Yn data s).2.1 ∧ (Yn data s).2.1 ≤ s.length ∧ (Yn data s).1.sz + 1000 * 1 ≤ 1 + 1000 * (Yn data s).2.1.toNat := by
  intro s hs he
  cases s with
  | nil => simp [Yn] at he
  | cons b t =>
   simp only [Yn] at he ⊢
   split at he
   ·rename_i h1; exact absurd he h1
   ·rename_i h1
    rw [if_neg h1]
    simp only [List.length_cons] at hs ⊢
    obtain ⟨g1, g2, g3⟩ := h b.toNat t (by omega) (Classical.byContradiction h1)
    refine ⟨by omega, by push_cast; omega, ?_⟩
    have : ((data (b.toNat : Int) t).2.1 + 1).toNat = (data (b.toNat : Int) t).2.1.toNat + 1 := by omega
    rw [this]; omega
 exact ⟨fun s hs he => by obtain ⟨a, b, c⟩ := key s hs he; exact ⟨by omega, b, by omega⟩, fun s hs he => ⟨(key s hs he).1, (key s hs he).2.2⟩⟩
theorem Qp2 {k num : Int} {q : (List Q0 × List UInt8) × Int} {tot : Nat} (h : (Qbm k num q tot).2.2 = 0) : q.2 = 0 ∧ q.1.2 = [] ∧ Q4m ⟨k, num, [], q.1.1⟩ = 0 ∧ Qbm k num q tot = (⟨k, num, [], q.1.1⟩, (tot : Int), 0) := by
 unfold Qbm at h ⊢
 split at h
 ·simp only [] at h
  split at h
  ·cases h
  ·rename_i h1 _; exact absurd h h1
 split at h
 ·cases h
 split at h
 ·rename_i h3; exact absurd h h3
 ·rename_i h1 h2 h3
  rw [if_neg h1, if_neg h2, if_neg h3]
  exact ⟨Classical.byContradiction h1, Classical.byContradiction h2, Classical.byContradiction h3, rfl⟩
theorem Qmu {data : Int → List UInt8 → Rd} {c : Yr} {s : List UInt8} (h : (Q3y data c s).2.2 = 0) : ∃ (body : List UInt8) (num : Int) (q : (List Q0 × List UInt8) × Int) (cnt : Nat) (rest : List UInt8), s.length ≥ c.Width.toNat + Uk (s.take c.Width.toNat) ∧ body = (s.drop c.Width.toNat).take (Uk (s.take c.Width.toNat)) ∧ c.Width.toNat ≤ body.length ∧ cnt ≤ 1000 ∧
  ((c.Kind ≠ 24 ∧ num = 0 ∧ rest = body.drop c.Width.toNat ∧ q = Vl (Yn data) cnt rest []) ∨ (c.Kind = 24 ∧ ∃ b : UInt8, body.drop c.Width.toNat = b :: rest ∧ ofB (b.toNat : Int) = true ∧ b.toNat ≠ 0 ∧ num = (ofS (b.toNat : Int)).Kind ∧ q = Vl (data (b.toNat : Int)) cnt rest [])) ∧
  (c.Kind = 23 → cnt % 2 = 0) ∧ (Qbm c.Kind num q (c.Width.toNat + Uk (s.take c.Width.toNat))).2.2 = 0 ∧ Q3y data c s = Qbm c.Kind num q (c.Width.toNat + Uk (s.take c.Width.toNat)) := by
 unfold Q3y at h ⊢
 split at h
 ·cases h
 rename_i h1; rw [if_neg h1]
 split at h
 ·cases h
 rename_i h2; rw [if_neg h2]
 unfold Qm0 at h ⊢
 split at h
 ·cases h
 rename_i h3; rw [if_neg h3]
 split at h
 ·cases h
 rename_i h4; rw [if_neg h4]
 split at h
 ·cases h
 rename_i h5; rw [if_neg h5]
 split at h
 ·rename_i h6; rw [if_pos h6]
  cases hb : ((s.drop c.Width.toNat).take (Uk (s.take c.Width.toNat))).drop c.Width.toNat with
  | nil => rw [hb] at h; cases h
  | cons b rest =>
   rw [hb] at h
   simp only [Qri] at h ⊢
   split at h
   ·cases h
   rename_i h7; rw [if_neg h7]
   refine ⟨_, _, _, _, rest, by omega, rfl, by omega, by omega, .inr ⟨h6, b, hb, ?_, ?_, rfl, rfl⟩, fun hk => by omega, h, rfl⟩
   ·cases ho : ofB (b.toNat : Int) with
    | true => rfl
    | false => exact absurd (.inl ho) h7
   ·exact fun ho => h7 (.inr ho)
 ·rename_i h6; rw [if_neg h6]
  exact ⟨_, _, _, _, _, by omega, rfl, by omega, by omega, .inl ⟨h6, rfl, rfl, rfl⟩, fun hk => by
   apply Classical.byContradiction
   intro hn; exact h5 ⟨hk, hn⟩, h, rfl⟩
theorem ar1 {z lo c k r : Nat} (h : z + 1000 * (lo * c) ≤ 0 + c + 1000 * k) (hk : k ≤ r) (hc : c ≤ 1000) : z ≤ 1000 + 1000 * r := by omega
theorem Qcu {code : Int} {s : List UInt8} (hs : s.length ≤ 600000) (h : (Qc1 code s).2.2 = 0) : 0 ≤ (Qc1 code s).2.1 ∧ (Qc1 code s).2.1 ≤ s.length ∧ (Qc1 code s).1.sz ≤ 1 + 1000 * (Qc1 code s).2.1.toNat := by
 generalize hg : Qc1 code s = g at h ⊢
 obtain ⟨x, n, e⟩ := g
 simp only at h
 subst h
 obtain ⟨h1, h2, h3, h4, h5, h6, h7⟩ := reads (by unfold Q8s; omega) hg
 refine ⟨h1, h2, ?_⟩
 rw [Q0.sz_eq, (Ud h5).2.2.2.1]
 simp only [Q0.szs]; omega
theorem Q1x : ∀ (m : Nat) (code : Int), Qn1 (U0 m code) := by
 intro m
 induction m with
 | zero =>
  intro code s hs h
  rw [U0] at h ⊢
  split at h
  ·cases h
  rename_i h1; rw [if_neg h1]
  split at h
  ·rename_i h2; rw [if_pos h2]; exact Qcu hs h
  ·cases h
 | succ m ih =>
  intro code s hs h
  obtain ⟨hrd, hr1⟩ := Q2c ih
  rw [U0] at h ⊢
  split at h
  ·cases h
  rename_i h1; rw [if_neg h1]
  split at h
  ·rename_i h2; rw [if_pos h2]; exact Qcu hs h
  rename_i h2; rw [if_neg h2]
  split at h
  ·rename_i h3; rw [if_pos h3]
   unfold Qmd at h ⊢
   split at h
   ·rename_i h4; exact absurd h h4
   ·rename_i h4
    rw [if_neg h4]
    obtain ⟨k, k1, k2, k3, k4, k5⟩ := Q6q hrd hr1 2 s [] hs (Classical.byContradiction h4)
    simp only [k2, List.length_drop]
    refine ⟨by omega, by omega, ?_⟩
    rw [Q0.sz_eq]
    simp only [Q0.szs] at k3 ⊢
    omega
  rename_i h3; rw [if_neg h3]
  split at h
  ·rename_i h4; rw [if_pos h4]; simp only []; exact ⟨by omega, by omega, by rw [Q0.sz_eq]; simp [Q0.szs]⟩
  ·rename_i h4; rw [if_neg h4]
   obtain ⟨body, num, q, cnt, rest, p1, p2, p3, p4, p5, p6, p7, p8⟩ := Qmu h
   obtain ⟨f1, f2, f3, f4⟩ := Qp2 p7
   rw [p8, f4]
   simp only []
   have hbl : body.length ≤ Uk (s.take (ofS code).Width.toNat) := by rw [p2, List.length_take]; omega
   have hq : Q0.szs q.1.1 ≤ 1000 + 1000 * rest.length ∧ rest.length ≤ body.length := by
    rcases p5 with ⟨_, _, e1, e2⟩ | ⟨_, b, e0, _, _, _, e2⟩
    ·have hrl : rest.length ≤ body.length := by rw [e1, List.length_drop]; omega
     have hbl2 : body.length ≤ s.length := by rw [p2, List.length_take, List.length_drop]; omega
     rw [e2] at f1 ⊢
     obtain ⟨k, k1, k2, k3, k4, k5⟩ := Q6q hrd hr1 cnt rest [] (by omega) f1
     simp only [Q0.szs] at k3
     exact ⟨ar1 k3 k1 p4, hrl⟩
    ·have hrl : rest.length ≤ body.length := by
      have := congrArg List.length e0
      rw [List.length_drop, List.length_cons] at this; omega
     have hbl2 : body.length ≤ s.length := by rw [p2, List.length_take, List.length_drop]; omega
     rw [e2] at f1 ⊢
     obtain ⟨k, k1, k2, k3, k4, k5⟩ := Q6q (lo := 0) (ih _) (fun s hs he => ⟨(ih _ s hs he).1, by have := (ih _ s hs he).2.2; omega⟩) cnt rest [] (by omega) f1
     simp only [Q0.szs] at k3
     exact ⟨ar1 k3 k1 p4, hrl⟩
   clear p5
   refine ⟨by omega, by omega, ?_⟩
   have hob : ofB code = true := by
    cases ho : ofB code with
    | true => rfl
    | false => exact absurd ho h1
   have hit : (ofS code).Items = true := by
    cases ho : (ofS code).Items with
    | true => rfl
    | false => exact absurd ho h2
   have hsz : (ofS code).Sized = true := by
    cases ho : (ofS code).Sized with
    | true => rfl
    | false => exact absurd ho h4
   have hw := ((Vq hob hit).1 hsz).1
   rw [Q0.sz_eq]
   simp only [Int.toNat_natCast]
   omega
end
end Go.Av
namespace Go.Av
noncomputable section
open Go.Proofs
set_option maxRecDepth 100000
theorem Qq3 (N : Nat) (s : List UInt8) (i : Nat) (b : UInt8) (t : List UInt8) (h : s.drop i = b :: t) (hs : Q8s s) (hN : 10 < N) : Qm N ⟨s, i, 0⟩ 1 = some ((b.toNat : Int), ⟨s, ((i + 1 : Nat) : Int), 0⟩) := by
 have hl : i < s.length := by
  apply Classical.byContradiction
  intro hn
  rw [List.drop_of_length_le (by omega)] at h; cases h
 simp only [Qm]
 have := Q18 N s i 1 hs (by omega) (by omega)
 rw [show ((1 : Nat) : Int) = 1 from rfl] at this
 rw [this, if_pos (by omega), h]
 simp only [Option.bind_some, List.take_succ_cons, List.take_zero]
 rw [Q84 N [b] (by simp) hN]
 simp [Uk]
theorem Qsi (n : Nat) : ((n : Int).tmod 2 ≠ 0) = (n % 2 ≠ 0) := by
 apply propext
 rw [Int.tmod_eq_emod_of_nonneg (by omega)]
 omega
theorem Qid (m : Nat) (h : m ≤ 32) : Q7s (m : Int) = true := decide_eq_true (by omega)
theorem Qqp {R1 : List UInt8 → Int → Option Rd} {R2 : Int → List UInt8 → Int → Option Rd} {R3 : List UInt8 → Int → Option Rd} {R4 : Yr → List UInt8 → Int → Option Rd} {N m : Nat} {c : Yr} {s : List UInt8} {data : Int → List UInt8 → Rd}
  (hN : 700000000 < N) (hm : m + 1 ≤ 32) (hs : s.length ≤ 600000) (hw : c.Width = 1 ∨ c.Width = 4) (hg : ∀ code, Qn1 (data code))
  (h1 : ∀ t, t.length ≤ 600000 → R1 t (((m + 1 : Nat) : Int) - 1) = some (Yn data t)) (h2 : ∀ code t, t.length ≤ 600000 → R2 code t (((m + 1 : Nat) : Int) - 1) = some (data code t)) :
  Wf R1 R2 R3 R4 N c s ((m + 1 : Nat) : Int) = some (Q3y data c s) := by
 obtain ⟨w, hw'⟩ : ∃ w : Nat, c.Width = w ∧ (w = 1 ∨ w = 4) := by
  rcases hw with h | h
  ·exact ⟨1, h, .inl rfl⟩
  ·exact ⟨4, h, .inr rfl⟩
 obtain ⟨hw1, hw2⟩ := hw'
 have hgr := (Q2c hg).1
 have hsn : Q8s s := by unfold Q8s; omega
 simp only [Wf, hw1, Q42 N s w hsn (by omega) (by omega), Option.bind_some, Qe, Q9, U8, Q2u, V0]
 unfold Q3y
 rw [hw1, Int.toNat_natCast]
 by_cases hl : w ≤ s.length
 ·rw [if_pos hl]
  dsimp only
  rw [if_neg (show ¬ s.length < w by omega), if_neg (show ¬ ((0 : Int) ≠ 0) by simp), Q3j N s w 0 hl]
  simp only [Option.bind_some]
  have hlt := Q0n (s.take w)
  have h4 : 256 ^ (s.take w).length ≤ 256 ^ 4 := Nat.pow_le_pow_right (by omega) (by rw [List.length_take]; omega)
  have h5 : (256 : Nat) ^ 4 = 4294967296 := rfl
  generalize hn : Uk (s.take w) = n at *
  rw [Qb9 _ (by omega)]
  by_cases h6 : s.length - w < n
  ·rw [if_pos (by omega), if_pos h6]; rfl
  rw [if_neg (by omega), if_neg h6, Qx _ (by omega), Q18 N s w n hsn hl (by omega), if_pos (by omega)]
  simp only [Option.bind_some]
  have hbl : ((s.drop w).take n).length = n := by rw [List.length_take, List.length_drop]; omega
  generalize hbody : (s.drop w).take n = body at *
  have hbn : Q8s body := by unfold Q8s; omega
  unfold Qm0
  rw [Q42 N body w hbn (by omega) (by omega)]
  simp only [Option.bind_some]
  by_cases h7 : w ≤ body.length
  ·rw [if_pos h7]
   dsimp only
   rw [if_neg (show ¬ body.length < w by omega), if_neg (show ¬ ((0 : Int) ≠ 0) by simp)]
   have hlt2 := Q0n (body.take w)
   generalize hcnt : Uk (body.take w) = cnt at *
   by_cases h8 : 1000 < cnt
   ·rw [if_pos (show (cnt : Int) > 1000 by omega), if_pos h8]; rfl
   rw [if_neg (show ¬ (cnt : Int) > 1000 by omega), if_neg h8]
   simp only [Qsi]
   have hm' : (1 : Int) ≤ ((m + 1 : Nat) : Int) ∧ ((m + 1 : Nat) : Int) ≤ 32 := by omega
   have arr : ∀ (L : (Int × Q3) → (Yr × Bool) → Option Rd), (∀ (b : UInt8) (t : List UInt8), body.drop w = b :: t → ofB (b.toNat : Int) = true → L ((b.toNat : Int), ⟨body, ((w + 1 : Nat) : Int), 0⟩) (ofS (b.toNat : Int), ofB (b.toNat : Int)) = some (Qbm c.Kind (ofS (b.toNat : Int)).Kind (Vl (data (b.toNat : Int)) cnt t []) (w + n))) →
     ((Qq N ⟨body, (w : Int), 0⟩).bind fun v20 => if v20.1 = 0 then some ((⟨0, 0, [], []⟩ : Q0), (0 : Int), (5 : Int)) else (Qm N v20.2 1).bind fun v23 => (Qw N (IntKind.i64.wrap v23.1)).bind fun v25 =>
      if (!v25.2) = true then some ((⟨0, 0, [], []⟩ : Q0), (0 : Int), (8 : Int)) else if IntKind.i64.wrap v23.1 = 0 then some ((⟨0, 0, [], []⟩ : Q0), (0 : Int), (8 : Int)) else L v23 v25) = some (Qri data cnt (w + n) c.Kind (body.drop w)) := by
    intro L hL
    rw [Q3j N body w 0 h7]
    simp only [Option.bind_some]
    cases hd : body.drop w with
    | nil =>
     have : body.length - w = 0 := by
      have := congrArg List.length hd
      rw [List.length_drop] at this; simpa using this
     rw [if_pos (by omega)]; rfl
    | cons b t =>
     have : body.length - w ≠ 0 := by
      have := congrArg List.length hd
      rw [List.length_drop, List.length_cons] at this; omega
     rw [if_neg (by omega), Qq3 N body w b t hd hbn (by omega)]
     simp only [Option.bind_some, Qw, Qou, Qri]
     cases ho : ofB (b.toNat : Int) with
     | false => rw [if_pos (by rfl), if_pos (.inl rfl)]; rfl
     | true =>
      rw [if_neg (by simp)]
      by_cases hb0 : b.toNat = 0
      ·rw [if_pos (by omega), if_pos (.inr hb0)]; rfl
      ·rw [if_neg (by omega), if_neg (by simp [hb0])]
       have := hL b t hd ho
       rw [ho] at this; exact this
   have hR1 : ∀ t : List UInt8, t.length ≤ body.length → R1 t (((m + 1 : Nat) : Int) - 1) = some (Yn data t) := fun t ht => h1 t (by omega)
   have szb : Q0.szs ([] : List Q0) ≤ 0 + 1000 * w := by simp [Q0.szs]
   have szb1 : Q0.szs ([] : List Q0) ≤ 0 + 1000 * (w + 1) := by simp [Q0.szs]
   have kb : ∀ code : Int, ofB code = true → 0 ≤ (ofS code).Kind ∧ (ofS code).Kind ≤ 25 := fun code ho => by have := (Qal code ho).kind; omega
   have dl : ∀ (b : UInt8) (t : List UInt8), body.drop w = b :: t → body.drop (w + 1) = t ∧ w + 1 ≤ body.length := fun b t hd => by
    refine ⟨by rw [← List.drop_drop, hd]; rfl, ?_⟩
    have := congrArg List.length hd
    rw [List.length_drop, List.length_cons] at this; omega
   by_cases h23 : c.Kind = 23
   ·rw [if_pos h23]
    by_cases h9 : cnt % 2 ≠ 0
    ·rw [if_pos h9, if_pos ⟨h23, h9⟩]; rfl
    ·rw [if_neg h9, if_neg (show ¬ (c.Kind = 23 ∧ cnt % 2 ≠ 0) from fun h => h9 h.2), if_neg (by omega), if_neg (show ¬ c.Kind = 24 by omega)]
     have := Q73 (R := R1) (N := N) (c := c) (v9 := (body, ⟨s, ((w + n : Nat) : Int), 0⟩)) (v11 := ((cnt : Int), ⟨body, (w : Int), 0⟩)) (rd := Yn data) (text := body) (cnt := cnt) (tot := w + n) hm' (by omega) (by omega) rfl rfl hN hR1 hgr N 0 w [] (by omega) (by omega) h7 rfl szb
     rw [Nat.sub_zero] at this
     exact this
   ·rw [if_neg h23, if_neg (show ¬ (c.Kind = 23 ∧ cnt % 2 ≠ 0) from fun h => h23 h.1)]
    by_cases h24 : c.Kind = 24
    ·rw [if_pos h24, if_pos h24]
     refine arr (fun v23 v25 => Zb R1 R2 N c ((m + 1 : Nat) : Int) (body, ⟨s, ((w + n : Nat) : Int), 0⟩) ((cnt : Int), ⟨body, (w : Int), 0⟩) v23 v25 N 0 v23.2.text v23.2.at' v23.2.err []) (fun b t hd ho => ?_)
     obtain ⟨d1, d2⟩ := dl b t hd
     have := Q8b (R := R1) (R2 := R2) (N := N) (c := c) (v9 := (body, ⟨s, ((w + n : Nat) : Int), 0⟩)) (v11 := ((cnt : Int), ⟨body, (w : Int), 0⟩)) (v23 := ((b.toNat : Int), ⟨body, ((w + 1 : Nat) : Int), 0⟩)) (v25 := (ofS (b.toNat : Int), ofB (b.toNat : Int))) (rd := data (b.toNat : Int)) (text := body) (cnt := cnt) (tot := w + n) (b := b) hm' (by omega) (by omega) rfl rfl rfl (kb _ ho) hN (fun t ht => h2 _ t (by omega)) (hg _) N 0 (w + 1) [] (by omega) (by omega) d2 rfl szb1
     rw [Nat.sub_zero, d1] at this
     exact this
    ·rw [if_neg h24, if_neg h24]
     have := Q7l (R := R1) (N := N) (c := c) (v9 := (body, ⟨s, ((w + n : Nat) : Int), 0⟩)) (v11 := ((cnt : Int), ⟨body, (w : Int), 0⟩)) (rd := Yn data) (text := body) (cnt := cnt) (tot := w + n) hm' (by omega) (by omega) rfl rfl hN hR1 hgr N 0 w [] (by omega) (by omega) h7 rfl szb
     rw [Nat.sub_zero] at this
     exact this
  ·rw [if_neg h7]
   dsimp only
   rw [if_pos (show body.length < w by omega), if_pos (show (3 : Int) ≠ 0 by decide)]; rfl
 ·rw [if_neg hl]
  dsimp only
  rw [if_pos (show s.length < w by omega), if_pos (show (3 : Int) ≠ 0 by decide)]; rfl
theorem Qrk {m N : Nat} {s : List UInt8} (hm : m ≤ 32) (hs : s.length ≤ 600000) (h : ∀ code t, t.length ≤ s.length → Xd N code t (m : Int) = some (U0 m code t)) : Zy (N + 1) s (m : Int) = some (Yn (U0 m) s) := by
 show Vr (Zy N) (Xd N) (W1 N) (Vb N) N s (m : Int) = _
 simp only [Vr, Q6p, Qid m hm, Option.bind_some, Q9, Bool.not_true, Bool.false_eq_true, if_false]
 cases s with
 | nil => rfl
 | cons b t =>
  rw [if_neg (by simp [Q6o]), show idx (b :: t) 0 = some b from rfl]
  simp only [Option.bind_some]
  rw [if_pos (by simp [Nat.ble_eq]), List.take_length, Qou]
  simp only [List.drop_succ_cons, List.drop_zero]
  rw [h _ t (by simp)]
  simp only [Option.bind_some, U8, Yn]
  by_cases he : (U0 m (b.toNat : Int) t).2.2 = 0
  ·rw [if_neg (by simp [he]), if_neg (by simp [he])]
   obtain ⟨g1, g2, g3⟩ := Q1x m (b.toNat : Int) t (by simp at hs; omega) he
   rw [Qx _ (by simp at hs; omega)]
  ·rw [if_pos he, if_pos he]; rfl
theorem Qsm : ∀ m : Nat, m ≤ 32 → ∀ N : Nat, 700000100 + 4 * m < N → ∀ (code : Int) (s : List UInt8), s.length ≤ 600000 → Xd N code s (m : Int) = some (U0 m code s) := by
 intro m
 induction m with
 | zero =>
  intro hm N hN code s hs
  obtain ⟨N, rfl⟩ : ∃ K, N = K + 1 := ⟨N - 1, by omega⟩
  show Wa (Zy N) (Xd N) (W1 N) (Vb N) N code s ((0 : Nat) : Int) = _
  simp only [Wa, Q6p, Qid 0 hm, Option.bind_some, Q9, Bool.not_true, Bool.false_eq_true, if_false, Qw, V0, U0]
  cases h1 : ofB code with
  | false => rfl
  | true =>
   simp only [Bool.not_true, Bool.false_eq_true, if_false, Bool.true_eq_false]
   cases h2 : (ofS code).Items with
   | false =>
    simp only [Bool.not_false, if_true]
    rw [Qoh N code s (by unfold Q8s; omega) (by omega) (by omega)]; rfl
   | true => rfl
 | succ m ih =>
  intro hm N hN code s hs
  obtain ⟨N, rfl⟩ : ∃ K, N = K + 3 := ⟨N - 3, by omega⟩
  show Wa (Zy (N + 2)) (Xd (N + 2)) (W1 (N + 2)) (Vb (N + 2)) (N + 2) code s ((m + 1 : Nat) : Int) = _
  simp only [Wa, Q6p, Qid (m + 1) hm, Option.bind_some, Q9, Bool.not_true, Bool.false_eq_true, if_false, Qw, V0, U0]
  cases h1 : ofB code with
  | false => rfl
  | true =>
   simp only [Bool.not_true, Bool.false_eq_true, if_false, Bool.true_eq_false]
   cases h2 : (ofS code).Items with
   | false =>
    simp only [Bool.not_false, if_true]
    rw [Qoh (N + 2) code s (by unfold Q8s; omega) (by omega) (by omega)]; rfl
   | true =>
    simp only [Bool.not_true, Bool.false_eq_true, if_false, Bool.true_eq_false]
    rw [if_neg (show ¬ (((m + 1 : Nat) : Int) = 0) by omega)]
    have hR : ∀ t : List UInt8, t.length ≤ 600000 → Zy (N + 1) t (((m + 1 : Nat) : Int) - 1) = some (Yn (U0 m) t) := fun t ht => by
     rw [show (((m + 1 : Nat) : Int) - 1) = (m : Int) by omega]
     exact Qrk (by omega) ht (fun code u hu => ih (by omega) N (by omega) code u (by omega))
    have hD : ∀ (code : Int) (t : List UInt8), t.length ≤ 600000 → Xd (N + 1) code t (((m + 1 : Nat) : Int) - 1) = some (U0 m code t) := fun code t ht => by
     rw [show (((m + 1 : Nat) : Int) - 1) = (m : Int) by omega]
     exact ih (by omega) (N + 1) (by omega) code t ht
    by_cases h3 : (ofS code).Kind = 25
    ·rw [if_pos h3, if_pos h3]
     show (Xy (Zy (N + 1)) (Xd (N + 1)) (W1 (N + 1)) (Vb (N + 1)) (N + 1) s ((m + 1 : Nat) : Int)).bind _ = _
     simp only [Xy]
     have := Qk1 (R := Zy (N + 1)) (N := N + 1) (most := ((m + 1 : Nat) : Int)) (rd := Yn (U0 m)) (text := s) (by omega) (by omega) (by omega) (fun t ht => hR t (by omega)) (Q2c (Q1x m)).1 (N + 1) 0 0 [] (by omega) (by omega) (by omega) rfl
     rw [show ((0 : Nat) : Int) = 0 from rfl] at this
     rw [this]; rfl
    ·rw [if_neg h3, if_neg h3]
     cases h4 : (ofS code).Sized with
     | false => rfl
     | true =>
      simp only [Bool.not_true, Bool.false_eq_true, if_false, Bool.true_eq_false]
      show (Wf (Zy (N + 1)) (Xd (N + 1)) (W1 (N + 1)) (Vb (N + 1)) (N + 1) (ofS code) s ((m + 1 : Nat) : Int)).bind _ = _
      rw [Qqp (m := m) (c := ofS code) (by omega) hm hs ((Vq h1 h2).1 h4).1 (Q1x m) hR hD]; rfl
theorem Qqy (m N : Nat) (s : List UInt8) (hm : m ≤ 32) (hN : 700000200 + 4 * m < N) (hs : s.length ≤ 600000) : Zy N s (m : Int) = some (Yn (U0 m) s) := by
 obtain ⟨N, rfl⟩ : ∃ K, N = K + 1 := ⟨N - 1, by omega⟩
 exact Qrk hm hs (fun code t ht => Qsm m hm N (by omega) code t (by omega))
end
end Go.Av
namespace Go.Av
noncomputable section
open Go.Proofs
set_option maxRecDepth 100000
end
end Go.Av
namespace Go.Av
noncomputable section
open Go.Proofs
set_option maxRecDepth 100000
open Classical in
open Classical in
open Classical in
end
end Go.Av
namespace Go.Av
noncomputable section
open Go.Proofs
set_option maxRecDepth 100000
noncomputable def Ql9 (d : Int → List UInt8 → Rd) (code : Int) (s : List UInt8) : Rd := if (ofS code).Kind = 25 then Qmd (Yn d) s else if (ofS code).Sized = false then (⟨(ofS code).Kind, 0, [], []⟩, 0, 0) else Q3y d (ofS code) s
theorem Qir {code : Int} (h1 : ofB code = true) (h2 : (ofS code).Items = false) (m : Nat) (s : List UInt8) : U0 m code s = Qc1 code s := by
 cases m <;> simp only [U0, h1, h2, if_true, if_false, Bool.true_eq_false]
theorem Q9q {code : Int} (h1 : ofB code = true) (h2 : (ofS code).Items = true) (m : Nat) (s : List UInt8) : U0 (m + 1) code s = Ql9 (U0 m) code s := by
 simp only [U0, h1, h2, if_false, Bool.true_eq_false]; rfl
theorem Q9n : ∀ (l : List Q0) (k n m : Int), (∀ x ∈ l, W0 x m = 0 ∧ (k = 24 → IntKind.u64.wrap x.Kind = n)) → Jo l k n m 0 = 0
 | [], _, _, _, _ => by rw [Jo]
 | x :: l, k, n, m, h => by
  obtain ⟨h1, h2⟩ := h x (by simp)
  rw [Jo, if_neg (fun hh => hh.2 (h2 hh.1)), if_neg (by simp [h1])]
  exact Q9n l k n m (fun y hy => h y (by simp [hy]))
theorem Qlf {k n : Int} {l : List Q0} (h24 : k = 24 → 1 ≤ n ∧ n ≤ 24) (h0 : k ≠ 24 → n = 0) (h25 : k = 25 → l.length = 2) (h23 : k = 23 → l.length % 2 = 0) : J6 ⟨k, n, [], l⟩ = true := by
 unfold J6 Q5a
 simp only [Q9, Q0r, V0, U8, Qek, Zx]
 rw [if_neg (by simp)]
 by_cases e : k = 24
 ·rw [if_pos e, if_pos (h24 e).1]
  have := (h24 e).2
  simp [Q54]; exact this
 ·rw [if_neg e, if_neg (by simp [h0 e])]
  by_cases e5 : k = 25
  ·rw [if_pos e5]
   simp [V0, h25 e5]
  ·rw [if_neg e5]
   by_cases e3 : k = 23
   ·rw [if_pos e3]
    have := h23 e3
    simp [V0, Int.tmod_eq_emod_of_nonneg]; omega
   ·rw [if_neg e3]; rfl
end
end Go.Av
namespace Go.Av
noncomputable section
open Go.Proofs
set_option maxRecDepth 100000
end
end Go.Av
namespace Go.Av
noncomputable section
open Go.Proofs
set_option maxRecDepth 100000
end
end Go.Av
namespace Go.Av
noncomputable section
open Go.Proofs
set_option maxRecDepth 100000
def Q1h (code : Int) (v : Q0) (b : List UInt8) : Bool :=
 if (ofS code).Items = false then Q08 code v else if (ofS code).Width = 0 then decide (v.Items.length = 0)
 else decide ((ofS code).Width = 4 ∨ (v.Items.length < 256 ∧ b.length + 1 < 256))
def Yo (code : Int) (v : Q0) (b : List UInt8) : List UInt8 :=
 if (ofS code).Items = false then (Qo2 code v).1 else if (ofS code).Sized = false then []
 else Wr (b.length + (ofS code).Width.toNat) (ofS code).Width.toNat ++ (Wr v.Items.length (ofS code).Width.toNat ++ b)
def Qnw (c : Int) (l : List (Q0 × List UInt8)) : Bool := l.all fun p => Q1h c p.1 p.2
def Q1a (k : Int) (l : List (Q0 × List UInt8)) : Int := ((Wu k).find? (fun c => Qnw c l)).getD 0
def Q1t (c : Int) : UInt8 := UInt8.ofNat c.toNat
def Qty (n : Int) (l : List (Q0 × List UInt8)) : List UInt8 := Q1t (Q1a n l) :: (l.map fun p => Yo (Q1a n l) p.1 p.2).flatten
def Qs4 (k n : Int) (is : List Q0) (l : List (List UInt8 × List UInt8)) : List UInt8 := if k = 24 then Qty n (is.zip (l.map (·.1))) else if k = 25 then [] else (l.map (·.2)).flatten
def Qtt (v : Q0) (b : List UInt8) (l : List (List UInt8 × List UInt8)) : List UInt8 := if v.Kind = 25 then 0 :: (l.map (·.2)).flatten else Q1t (Q1a v.Kind [(v, b)]) :: Yo (Q1a v.Kind [(v, b)]) v b
mutual
def Q0.enc : Q0 → List UInt8 × List UInt8
 | .mk k n t is => (Qs4 k n is (Q0.encs is), Qtt ⟨k, n, t, is⟩ (Qs4 k n is (Q0.encs is)) (Q0.encs is))
def Q0.encs : List Q0 → List (List UInt8 × List UInt8)
 | [] => []
 | v :: l => v.enc :: Q0.encs l
end
def Q0.inn (v : Q0) : List UInt8 := v.enc.1
def Q0.byt (v : Q0) : List UInt8 := v.enc.2
theorem Qdv : ∀ l, Q0.encs l = l.map Q0.enc
 | [] => rfl
 | v :: l => by rw [Q0.encs, Qdv l]; rfl
def Q0.prs (v : Q0) : List (Q0 × List UInt8) := v.Items.map fun x => (x, x.inn)
def Q0.elm (v : Q0) : Int := Q1a v.N' v.prs
def Q0.cod (v : Q0) : Int := Q1a v.Kind [(v, v.inn)]
theorem Qpk (l : List Q0) : l.zip ((l.map Q0.enc).map (·.1)) = l.map fun x => (x, x.inn) := by
 induction l with
 | nil => rfl
 | cons x l ih => simp only [List.map_cons, List.zip_cons_cons, ih]; rfl
theorem Q61 (v : Q0) : v.inn = if v.Kind = 24 then Q1t v.elm :: (v.Items.map fun x => Yo v.elm x x.inn).flatten else if v.Kind = 25 then [] else (v.Items.map Q0.byt).flatten := by
 obtain ⟨k, n, t, is⟩ := v
 unfold Q0.inn
 rw [Q0.enc, Qdv]
 simp only [Qs4, Qpk, Q0.elm, Q0.prs, Qty]
 simp only [List.map_map]
 rfl
theorem Qck (v : Q0) : v.byt = if v.Kind = 25 then 0 :: (v.Items.map Q0.byt).flatten else Q1t v.cod :: Yo v.cod v v.inn := by
 obtain ⟨k, n, t, is⟩ := v
 unfold Q0.byt Q0.cod Q0.inn
 rw [Q0.enc, Qdv]
 simp only [Qtt, List.map_map]
 rfl
theorem Qfl {k : Int} {l : List (Q0 × List UInt8)} (h : ∃ c ∈ Wu k, Qnw c l = true) : Q1a k l ∈ Wu k ∧ Qnw (Q1a k l) l = true := by
 unfold Q1a
 cases hf : (Wu k).find? (fun c => Qnw c l) with
 | some c => exact ⟨List.mem_of_find?_eq_some hf, by simpa using List.find?_some hf⟩
 | none =>
  obtain ⟨c, h1, h2⟩ := h
  have := List.find?_eq_none.1 hf c h1
  exact absurd h2 this
def Ju (k : Int) : Int := (Wu k).getLastD 0
def Qi7 (k : Nat) : Bool := !(decide (1 ≤ k)) || ((Wu k).contains (Ju k) && ((k == 25) || (if (ofS (Ju k)).Items then decide ((ofS (Ju k)).Width = 4) && (ofS (Ju k)).Sized else if (ofS (Ju k)).Sized then decide ((ofS (Ju k)).Width = 4) else decide ((ofS (Ju k)).Code ≠ 65) && (decide ((ofS (Ju k)).Width = 0 ∧ (Ub k).1 = 0 ∧ (Ub k).2 = false) || (decide ((ofS (Ju k)).Width = 1) && decide (8 = (Ub k).1 ∨ (Ub k).1 = 1 ∧ (Ub k).2 = false)) || decide (1 < (ofS (Ju k)).Width)))))
theorem Qie : ((List.range 26).all Qi7) = true := by decide +kernel
theorem Q7n {k : Int} (h : 1 ≤ k ∧ k ≤ 25) : Qi7 k.toNat = true := List.all_eq_true.1 Qie k.toNat (by simp; omega)
theorem Qjt {v : Q0} (hn : okU v.N') (h : V2 v = 0) : Ju v.Kind ∈ Wu v.Kind ∧ Q08 (Ju v.Kind) v = true := by
 obtain ⟨c1, c2, c3, c4, c5, c6, c7⟩ := Ud h
 have hb := Q7n (k := v.Kind) (by omega)
 unfold Qi7 at hb
 rw [show ((v.Kind.toNat : Nat) : Int) = v.Kind by omega] at hb
 simp only [Bool.or_eq_true, Bool.not_eq_true', decide_eq_false_iff_not, Bool.and_eq_true, List.contains_iff_mem, beq_iff_eq] at hb
 rcases hb with hb | ⟨hm, hb⟩
 ·omega
 ·refine ⟨hm, ?_⟩
  obtain ⟨d1, d2, d3⟩ := Q07 _ _ hm
  have hw := Qal _ d1
  have hi := Uy hw (by omega)
  rcases hb with hb | hb
  ·omega
  rw [hi] at hb
  simp only [Bool.false_eq_true, if_false] at hb
  have hs : Q28 (ofS (Ju v.Kind)) v = true := by
   unfold Q28
   by_cases hz : (ofS (Ju v.Kind)).Sized = true
   ·rw [if_pos hz] at hb
    have h4 : (ofS (Ju v.Kind)).Width = 4 := by simpa using hb
    obtain ⟨_, _, _, h65⟩ := hw.sized hi hz
    rw [if_neg h65, if_pos hz]
    simp [h4]
   ·rw [if_neg hz] at hb
    simp only [Bool.and_eq_true, Bool.or_eq_true, decide_eq_true_eq] at hb
    obtain ⟨h65, hb⟩ := hb
    rw [if_neg h65, if_neg hz]
    have hnum := c3
    unfold Q8e at hnum
    simp only [Bool.and_eq_true] at hnum
    have hf := hnum.1
    rcases hb with (⟨w0, b0, b1⟩ | ⟨w1, hb⟩) | w2
    ·rw [if_pos w0]
     rw [b0, b1] at hf
     unfold Q2w at hf
     simp at hf ⊢
     have := hn.1
     omega
    ·rw [if_neg (by omega), if_pos w1, d3]
     rcases hb with hb | ⟨b1, b2⟩
     ·rw [← hb] at hf; exact hf
     ·rw [b1, b2] at hf
      rw [b2]
      unfold Q2w at hf ⊢
      simp at hf ⊢
      omega
    ·rw [if_neg (by omega), if_neg (by omega)]
  unfold Q08
  simp [d1, d3, h, hs]
end
end Go.Av
namespace Go.Av
noncomputable section
open Go.Proofs
set_option maxRecDepth 100000
theorem Q8n : ∀ (l : List Q0) (k n m e : Int), Jo l k n m e = 0 → e = 0 ∧ ∀ x ∈ l, W0 x m = 0 ∧ (k = 24 → IntKind.u64.wrap x.Kind = n)
 | [], _, _, _, _, h => ⟨by simpa [Jo] using h, fun x hx => by cases hx⟩
 | x :: l, k, n, m, e, h => by
  rw [Jo] at h
  split at h
  ·cases h
  ·rename_i h1
   split at h
   ·rename_i h2; exact absurd h h2
   ·rename_i h2
    obtain ⟨i1, i2⟩ := Q8n l k n m e h
    refine ⟨i1, fun y hy => ?_⟩
    rcases List.mem_cons.1 hy with rfl | hy
    ·exact ⟨Classical.byContradiction h2, fun hk => Classical.byContradiction fun hn => h1 ⟨hk, hn⟩⟩
    ·exact i2 y hy
theorem G0 {v : Q0} (h : J6 v = true) : v.Text = [] ∧ (v.Kind = 24 → 1 ≤ v.N' ∧ v.N' ≤ 24) ∧ (v.Kind ≠ 24 → v.N' = 0) ∧ (v.Kind = 25 → v.Items.length = 2) ∧ (v.Kind = 23 → v.Items.length % 2 = 0) := by
 unfold J6 Q5a at h
 simp only [Q9, Q0r, V0, U8, Qek, Zx] at h
 split at h
 ·cases h
 ·rename_i h1
  have h1 : v.Text = [] := by simpa using h1
  refine ⟨h1, ?_⟩
  split at h
  ·rename_i h2
   split at h
   ·rename_i h3
    have h4 : v.N' ≤ 24 := by
     have : Q8 .leq v.N' 24 = true := by simpa using h
     rw [Q54] at this; exact this
    exact ⟨fun _ => ⟨h3, h4⟩, fun h => absurd h2 h, fun h => by omega, fun h => by omega⟩
   ·cases h
  ·rename_i h2
   split at h
   ·cases h
   ·rename_i h3
    have h3 : v.N' = 0 := by simpa using h3
    refine ⟨fun h => absurd h h2, fun _ => h3, ?_, ?_⟩
    ·intro h5
     rw [if_pos h5] at h
     have : Q8 .eql (v.Items.length : Int) 2 = true := by simpa using h
     rw [V0] at this; omega
    ·intro h5
     rw [if_neg (by omega), if_pos h5] at h
     have : Q8 .eql ((v.Items.length : Int).tmod 2) 0 = true := by simpa using h
     rw [V0, Int.tmod_eq_emod_of_nonneg (by omega)] at this; omega
theorem Vo {v : Q0} {m : Int} (h : W0 v m = 0) : (1 ≤ v.Kind ∧ v.Kind ≤ 21 ∧ V2 v = 0) ∨
  (22 ≤ v.Kind ∧ v.Kind ≤ 25 ∧ m ≠ 0 ∧ J6 v = true ∧ v.Items.length ≤ 1000 ∧ Q4m v = 0 ∧ ∀ x ∈ v.Items, W0 x (m - 1) = 0 ∧ (v.Kind = 24 → IntKind.u64.wrap x.Kind = v.N')) := by
 rw [Q4u] at h
 split at h
 ·cases h
 ·split at h
  ·cases h
  ·split at h
   ·exact .inl ⟨by omega, by omega, h⟩
   ·split at h
    ·cases h
    ·split at h
     ·cases h
     ·rename_i hs
      split at h
      ·cases h
      ·obtain ⟨h1, h2⟩ := Q8n _ _ _ _ _ h
       exact .inr ⟨by omega, by omega, by assumption, by simpa using hs, by omega, h1, h2⟩
theorem Q2q {v : Q0} {m : Int} (h : W0 v m = 0) : 1 ≤ v.Kind ∧ v.Kind ≤ 25 := by
 rcases Vo h with ⟨h1, h2, _⟩ | ⟨h1, h2, _⟩ <;> omega
theorem Q0h {v : Q0} {m : Int} (h : W0 v m = 0) : IntKind.u64.wrap v.Kind = v.Kind := by
 have := Q2q h
 rw [Qhg]; omega
theorem Qh5 {k : Int} (h : 22 ≤ k ∧ k ≤ 24) : Ju k ∈ Wu k ∧ (ofS (Ju k)).Items = true ∧ (ofS (Ju k)).Width = 4 := by
 have hb := Q7n (k := k) (by omega)
 unfold Qi7 at hb
 rw [show ((k.toNat : Nat) : Int) = k by omega] at hb
 simp only [Bool.or_eq_true, Bool.not_eq_true', decide_eq_false_iff_not, Bool.and_eq_true, List.contains_iff_mem, beq_iff_eq] at hb
 rcases hb with hb | ⟨hm, hb⟩
 ·omega
 ·obtain ⟨d1, d2, d3⟩ := Q07 _ _ hm
  have hi : (ofS (Ju k)).Items = true := by rw [(Qal _ d1).items, d3]; simp; omega
  rcases hb with hb | hb
  ·omega
  ·rw [if_pos hi] at hb
   simp only [Bool.and_eq_true, decide_eq_true_eq] at hb
   exact ⟨hm, hi, hb.1⟩
theorem Qdf {v : Q0} {m : Int} (hf : Fine v) (h : W0 v m = 0) (hk : v.Kind ≠ 25) (b : List UInt8) : Ju v.Kind ∈ Wu v.Kind ∧ Q1h (Ju v.Kind) v b = true := by
 rcases Vo h with ⟨h1, h2, h3⟩ | ⟨h1, h2, _⟩
 ·obtain ⟨g1, g2⟩ := Qjt hf.num h3
  obtain ⟨f1, f2, _⟩ := Q0x g2
  refine ⟨g1, ?_⟩
  unfold Q1h
  rw [if_pos (Uy (Qal _ f1) (by omega))]; exact g2
 ·obtain ⟨g1, g2, g3⟩ := Qh5 (k := v.Kind) (by omega)
  refine ⟨g1, ?_⟩
  unfold Q1h
  rw [if_neg (by simp [g2]), if_neg (by omega)]
  simp [g3]
theorem Qit {v : Q0} {m : Int} (hf : Fine v) (h : W0 v m = 0) (hk : v.Kind = 24) : v.elm ∈ Wu v.N' ∧ ∀ x ∈ v.Items, Q1h v.elm x x.inn = true := by
 rcases Vo h with ⟨h1, h2, h3⟩ | ⟨h1, h2, h3, h4, h5, h6, h7⟩
 ·omega
 obtain ⟨s1, s2, s3, s4, s5⟩ := G0 h4
 have hn := s2 hk
 have hkx : ∀ x ∈ v.Items, x.Kind = v.N' := fun x hx => by
  have := (h7 x hx).2 hk
  rw [Q0h (h7 x hx).1] at this; exact this
 have hlast : Ju v.N' ∈ Wu v.N' := by
  have hb := Q7n (k := v.N') (by omega)
  unfold Qi7 at hb
  rw [show ((v.N'.toNat : Nat) : Int) = v.N' by omega] at hb
  simp only [Bool.or_eq_true, Bool.not_eq_true', decide_eq_false_iff_not, Bool.and_eq_true, List.contains_iff_mem] at hb
  rcases hb with hb | ⟨hm, _⟩
  ·omega
  ·exact hm
 obtain ⟨g1, g2⟩ := Qfl (k := v.N') (l := v.prs) ⟨Ju v.N', hlast, by
  unfold Qnw Q0.prs
  rw [List.all_map, List.all_eq_true]
  intro x hx
  have hkk := hkx x hx
  have := (Qdf (hf.items x hx) (h7 x hx).1 (by omega) x.inn).2
  rw [hkk] at this
  exact this⟩
 refine ⟨g1, fun x hx => ?_⟩
 have := List.all_eq_true.1 g2 (x, x.inn) (by unfold Q0.prs; exact List.mem_map.2 ⟨x, hx, rfl⟩)
 exact this
theorem Qfx {v : Q0} {m : Int} (hf : Fine v) (h : W0 v m = 0) (hk : v.Kind ≠ 25) : v.cod ∈ Wu v.Kind ∧ Q1h v.cod v v.inn = true := by
 obtain ⟨l1, l2⟩ := Qdf hf h hk v.inn
 obtain ⟨g1, g2⟩ := Qfl (k := v.Kind) (l := [(v, v.inn)]) ⟨Ju v.Kind, l1, by simp [Qnw, l2]⟩
 exact ⟨g1, by unfold Q0.cod; simpa [Qnw] using g2⟩
mutual
def Q0.wgt : Q0 → Nat
 | .mk _ _ t is => t.length + 30 + Q0.wgts is
def Q0.wgts : List Q0 → Nat
 | [] => 0
 | v :: l => v.wgt + Q0.wgts l
end
theorem Q0.wgt_eq (v : Q0) : v.wgt = v.Text.length + 30 + Q0.wgts v.Items := by cases v; simp only [Q0.wgt]
theorem Q4c : ∀ (l : List Q0), ∀ x ∈ l, x.wgt ≤ Q0.wgts l
 | v :: l, x, hx => by
  simp only [Q0.wgts]
  rcases List.mem_cons.1 hx with rfl | hx
  ·omega
  ·have := Q4c l x hx; omega
theorem Qa8 (code : Int) : 0 ≤ (ofS code).Width ∧ (ofS code).Width.toNat ≤ 16 := by
 cases h : ofB code with
 | false => rw [Qfn code h]; decide
 | true =>
  have hw := Qal code h
  cases hi : (ofS code).Items with
  | false =>
   cases hw.shape hi with
   | sized w hs hw' h12 hk2 hc => rw [hw']; omega
   | wide hs hw' hk2 hc => rw [hw']; decide
   | num w hs hw' hh ht hc hbb => rw [hw']; omega
  | true =>
   obtain ⟨h1, h2⟩ := Vq h hi
   cases hs : (ofS code).Sized with
   | true => have := (h1 hs).1; omega
   | false =>
    have : (ofS code).Width = 0 := (Qkz (P := fun t => t.2.2.2.2 = true → t.2.2.2.1 = false → t.2.2.1 = 0) (B := fun k => !(W5 k).2.2.2.2 || ((W5 k).2.2.2.1 || decide ((W5 k).2.2.1 = 0))) (by decide +kernel) (fun k hk h1 h2 => by simpa [h1, h2] using hk) h) hi hs
    omega
theorem Qox (code : Int) (v : Q0) : (Qo2 code v).1.length ≤ v.Text.length + 16 := by
 unfold Qo2
 split
 ·simp
 ·split
  ·simp
  ·rename_i hf
   have hf : Q08 code v = true := by simpa using hf
   have := Q2g hf
   have := Qa8 code
   simp only []
   split at * <;> omega
theorem Qjq (code : Int) (v : Q0) (b : List UInt8) : (Yo code v b).length ≤ v.Text.length + 16 + b.length := by
 unfold Yo
 split
 ·have := Qox code v; omega
 ·rename_i hi
  have hi : (ofS code).Items = true := by simpa using hi
  split
  ·simp
  ·rename_i hs
   have hs : (ofS code).Sized = true := by simpa using hs
   have hw : (ofS code).Width.toNat ≤ 4 := by
    cases h : ofB code with
    | false => rw [Qfn code h]; decide
    | true => have := (Vq h hi).1 hs; omega
   simp [Za]; omega
theorem Q3i (v : Q0) : v.inn.length ≤ 1 + Q0.wgts v.Items ∧ v.byt.length ≤ v.wgt ∧ ∀ c, (Yo c v v.inn).length + 1 ≤ v.wgt := by
 induction v using Q0.ind with
 | h v ih =>
  have s1 : ∀ (l : List Q0), (∀ x ∈ l, x.byt.length ≤ x.wgt) → (l.map Q0.byt).flatten.length ≤ Q0.wgts l := by
   intro l
   induction l with
   | nil => intro _; simp
   | cons x l ihl =>
    intro h
    have h1 := h x (.head _)
    have h2 := ihl (fun y hy => h y (.tail _ hy))
    simp only [List.map_cons, List.flatten_cons, List.length_append, Q0.wgts]; omega
  have s2 : ∀ (c : Int) (l : List Q0), (∀ x ∈ l, ∀ c, (Yo c x x.inn).length + 1 ≤ x.wgt) → (l.map fun x => Yo c x x.inn).flatten.length ≤ Q0.wgts l := by
   intro c l
   induction l with
   | nil => intro _; simp
   | cons x l ihl =>
    intro h
    have h1 := h x (.head _) c
    have h2 := ihl (fun y hy => h y (.tail _ hy))
    simp only [List.map_cons, List.flatten_cons, List.length_append, Q0.wgts]; omega
  have hin : v.inn.length ≤ 1 + Q0.wgts v.Items := by
   rw [Q61]
   split
   ·have := s2 v.elm v.Items (fun x hx => (ih x hx).2.2)
    simp only [List.length_cons]; omega
   ·split
    ·simp
    ·have := s1 v.Items (fun x hx => (ih x hx).2.1)
     omega
  have hd : ∀ c, (Yo c v v.inn).length + 1 ≤ v.wgt := fun c => by
   have := Qjq c v v.inn
   rw [v.wgt_eq]; omega
  refine ⟨hin, ?_, hd⟩
  rw [Qck]
  split
  ·have := s1 v.Items (fun x hx => (ih x hx).2.1)
   rw [v.wgt_eq]; simp only [List.length_cons]; omega
  ·have := hd v.cod
   simp only [List.length_cons]; omega
end
end Go.Av
namespace Go.Av
noncomputable section
open Go.Proofs
set_option maxRecDepth 100000
theorem Q3w {rd : List UInt8 → Rd} {e : Q0 → List UInt8} : ∀ (l acc : List Q0) (rest : List UInt8), (∀ x ∈ l, ∀ t, rd (e x ++ t) = (x, ((e x).length : Int), 0)) → Vl rd l.length ((l.map e).flatten ++ rest) acc = ((acc ++ l, rest), 0)
 | [], acc, rest, _ => by simp [Vl]
 | x :: l, acc, rest, h => by
  have h1 := h x (.head _) ((l.map e).flatten ++ rest)
  rw [List.length_cons, Vl, List.map_cons, List.flatten_cons, List.append_assoc, h1]
  simp only [ne_eq, not_true_eq_false, if_false, Int.toNat_natCast, List.drop_left]
  rw [Q3w l (acc ++ [x]) rest (fun y hy => h y (.tail _ hy))]
  simp
theorem Q1m {c : Int} (h : 0 ≤ c ∧ c < 256) : ((Q1t c).toNat : Int) = c := by
 unfold Q1t
 rw [UInt8.toNat_ofNat']
 omega
theorem of0 : ofB 0 = true ∧ (ofS 0).Kind = 25 ∧ (ofS 0).Items = true := by decide +kernel
theorem Qgo {code : Int} (h : ofB code = true) (hi : (ofS code).Items = true) (hs : (ofS code).Sized = false) : (ofS code).Width = 0 :=
 (Qkz (P := fun t => t.2.2.2.2 = true → t.2.2.2.1 = false → t.2.2.1 = 0) (B := fun k => !(W5 k).2.2.2.2 || ((W5 k).2.2.2.1 || decide ((W5 k).2.2.1 = 0))) (by decide +kernel) (fun k hk h1 h2 => by simpa [h1, h2] using hk) h) hi hs
theorem Qge {k num : Int} {l : List Q0} {tot : Nat} (hk : Q4m ⟨k, num, [], l⟩ = 0) : Qbm k num ((l, []), 0) tot = (⟨k, num, [], l⟩, (tot : Int), 0) := by
 unfold Qbm
 rw [if_neg (by simp), if_neg (by simp), if_neg (by simp [hk])]
theorem Qjz {n w : Nat} (s : List UInt8) (h : n < 256 ^ w) : Uk ((Wr n w ++ s).take w) = n := by
 rw [List.take_left' (Za w n), Q15, Nat.mod_eq_of_lt h]
theorem Qhx {d : Int → List UInt8 → Rd} {c : Yr} {v : Q0} {w : Nat} (hw : c.Width = (w : Int)) (hk : c.Kind = v.Kind) (hs : c.Sized = true) (hn : v.Items.length < 256 ^ w) (hl : v.inn.length + w < 256 ^ w) (hn2 : v.Items.length ≤ 1000)
  (h23 : v.Kind = 23 → v.Items.length % 2 = 0) (hkeys : Q4m v = 0) (ht : v.Text = []) (hnum : v.Kind ≠ 24 → v.N' = 0)
  (h24 : v.Kind = 24 → ofB v.elm = true ∧ v.elm ≠ 0 ∧ (ofS v.elm).Kind = v.N' ∧ ∀ x ∈ v.Items, ∀ t, d v.elm (Yo v.elm x x.inn ++ t) = (x, ((Yo v.elm x x.inn).length : Int), 0))
  (hot : v.Kind ≠ 24 → v.Kind ≠ 25 ∧ ∀ x ∈ v.Items, ∀ t, Yn d (x.byt ++ t) = (x, (x.byt.length : Int), 0)) (s : List UInt8) :
  Q3y d c (Wr (v.inn.length + w) w ++ (Wr v.Items.length w ++ v.inn) ++ s) = (v, ((Wr (v.inn.length + w) w ++ (Wr v.Items.length w ++ v.inn)).length : Int), 0) := by
 have hwn : c.Width.toNat = w := by rw [hw]; rfl
 have e0 : (Wr (v.inn.length + w) w ++ (Wr v.Items.length w ++ v.inn) ++ s) = Wr (v.inn.length + w) w ++ ((Wr v.Items.length w ++ v.inn) ++ s) := by rw [List.append_assoc]
 have hlen : (Wr (v.inn.length + w) w ++ ((Wr v.Items.length w ++ v.inn) ++ s)).length = w + (w + v.inn.length + s.length) := by simp [Za]; omega
 unfold Q3y
 rw [hwn, e0, Qjz _ hl, if_neg (by rw [hlen]; omega), if_neg (by rw [hlen]; omega), List.drop_left' (Za w _),
  List.take_left' (show (Wr v.Items.length w ++ v.inn).length = v.inn.length + w by simp [Za]; omega)]
 unfold Qm0
 rw [if_neg (by simp [Za]), Qjz _ hn, if_neg (by omega), if_neg (by rw [hk]; intro h; exact h.2 (h23 h.1)), List.drop_left' (Za w _)]
 have hv : ∀ num, num = v.N' → (⟨c.Kind, num, [], v.Items⟩ : Q0) = v := fun num h => by
  apply Q0.ext' <;> simp [hk, ht, h]
 have htot : ((w + (v.inn.length + w) : Nat) : Int) = ((Wr (v.inn.length + w) w ++ (Wr v.Items.length w ++ v.inn)).length : Int) := by simp [Za]; omega
 by_cases h4 : v.Kind = 24
 ·obtain ⟨g1, g2, g3, g4⟩ := h24 h4
  have hr := Q56 g1
  rw [if_pos (by omega)]
  have hin := Q61 v
  rw [if_pos h4] at hin
  rw [hin]
  simp only [Qri]
  rw [← hin, Q1m hr, if_neg (by
   rintro (h | h)
   ·rw [g1] at h; cases h
   ·have := Q1m hr; omega)]
  have := Q3w (rd := d v.elm) (e := fun x => Yo v.elm x x.inn) v.Items [] [] g4
  rw [List.append_nil, List.nil_append] at this
  rw [this, Qge (by rw [hv _ g3]; exact hkeys), hv _ g3, htot]
 ·obtain ⟨g1, g2⟩ := hot h4
  rw [if_neg (by omega)]
  have hin := Q61 v
  rw [if_neg h4, if_neg g1] at hin
  have := Q3w (rd := Yn d) (e := Q0.byt) v.Items [] [] g2
  rw [List.append_nil, List.nil_append, ← hin] at this
  rw [this, Qge (by rw [hv 0 (hnum h4).symm]; exact hkeys), hv 0 (hnum h4).symm, htot]
theorem Qj7 {v x : Q0} (hx : x ∈ v.Items) : x.wgt ≤ v.wgt := by
 have := Q4c _ x hx
 rw [v.wgt_eq]; omega
theorem Qmo (v : Q0) : ∀ m : Nat, Fine v → W0 v m = 0 → v.wgt < 4000000000 →
  (∀ c, ofB c = true → (ofS c).Kind = v.Kind → v.Kind ≠ 25 → Q1h c v v.inn = true → ∀ s, U0 m c (Yo c v v.inn ++ s) = (v, ((Yo c v v.inn).length : Int), 0)) ∧
  ∀ s, Yn (U0 m) (v.byt ++ s) = (v, (v.byt.length : Int), 0) := by
 induction v using Q0.ind with
 | h v ih =>
  intro m hf hc hw
  have hP : ∀ c, ofB c = true → (ofS c).Kind = v.Kind → v.Kind ≠ 25 → Q1h c v v.inn = true → ∀ s, U0 m c (Yo c v v.inn ++ s) = (v, ((Yo c v v.inn).length : Int), 0) := by
   intro c c1 c2 c3 c4 s
   rcases Vo hc with ⟨k1, k2, k3⟩ | ⟨k1, k2, k3, k4, k5, k6, k7⟩
   ·have hi := Uy (Qal c c1) (by omega)
    unfold Q1h at c4
    rw [if_pos hi] at c4
    have hd : Yo c v v.inn = Jd (ofS c) v := by unfold Yo; rw [if_pos hi, Qoa c4]
    rw [hd, Qir c1 hi]
    exact Qqg hf.num c4 s
   ·obtain ⟨m', rfl⟩ : ∃ m', m = m' + 1 := ⟨m - 1, by omega⟩
    have hi : (ofS c).Items = true := by rw [(Qal c c1).items, c2]; simp; omega
    obtain ⟨s1, s2, s3, s4, s5⟩ := G0 k4
    have hit : ∀ x ∈ v.Items, W0 x ((m' : Nat) : Int) = 0 := fun x hx => by
     have := (k7 x hx).1
     rwa [show (((m' + 1 : Nat) : Int) - 1) = (m' : Int) by omega] at this
    rw [Q9q c1 hi, Ql9, if_neg (by omega)]
    unfold Q1h at c4
    rw [if_neg (by simp [hi])] at c4
    obtain ⟨q1, q2⟩ := Vq c1 hi
    have hlen := (Q3i v).1
    rw [v.wgt_eq] at hw
    by_cases hs : (ofS c).Sized = true
    ·rw [if_neg (by simp [hs])]
     have hd : Yo c v v.inn = Wr (v.inn.length + (ofS c).Width.toNat) (ofS c).Width.toNat ++ (Wr v.Items.length (ofS c).Width.toNat ++ v.inn) := by
      unfold Yo
      rw [if_neg (by simp [hi]), if_neg (by simp [hs])]
     rw [hd]
     obtain ⟨w1, w2⟩ := q1 hs
     have c5 : (ofS c).Width = 4 ∨ (v.Items.length < 256 ∧ v.inn.length + 1 < 256) := by
      rw [if_neg (by omega)] at c4
      simpa using c4
     refine Qhx (w := (ofS c).Width.toNat) (by have := Qa8 c; omega) c2 hs ?_ ?_ k5 s5 k6 s1 s3 (fun h4 => ?_) (fun h4 => ⟨c3, fun x hx t => (ih x hx m' (hf.items x hx) (hit x hx) (by have := Q4c _ x hx; omega)).2 t⟩) s
     ·rcases w1 with w1 | w1
      ·rw [w1] at c5 ⊢; show v.Items.length < 256 ^ 1; omega
      ·rw [w1]; show v.Items.length < 256 ^ 4; omega
     ·rcases w1 with w1 | w1
      ·rw [w1] at c5 ⊢; show v.inn.length + 1 < 256 ^ 1; omega
      ·rw [w1]; show v.inn.length + 4 < 256 ^ 4; omega
     ·obtain ⟨e1, e2⟩ := Qit hf hc h4
      obtain ⟨d1, d2, d3⟩ := Q07 _ _ e1
      have hnn := s2 h4
      refine ⟨d1, fun h0 => ?_, d3, fun x hx t => ?_⟩
      ·rw [h0] at d3
       have := of0.2.1
       omega
      ·have hkx : x.Kind = v.N' := by
        have := (k7 x hx).2 h4
        rwa [Q0h (k7 x hx).1] at this
       exact (ih x hx m' (hf.items x hx) (hit x hx) (by have := Q4c _ x hx; omega)).1 v.elm d1 (by rw [d3, hkx]) (by omega) (e2 x hx) t
    ·have hs : (ofS c).Sized = false := by simpa using hs
     rw [if_pos hs]
     have hw0 := Qgo c1 hi hs
     rw [if_pos hw0] at c4
     have hl0 : v.Items = [] := List.length_eq_zero_iff.1 (by simpa using c4)
     have hk := q2 hs
     have hd : Yo c v v.inn = [] := by
      unfold Yo
      rw [if_neg (by simp [hi]), if_pos hs]
     rw [hd]
     have hve : (⟨(ofS c).Kind, 0, [], []⟩ : Q0) = v := by
      apply Q0.ext' <;> simp [c2, s1, hl0]
      exact (s3 (by omega)).symm
     rw [hve]; rfl
  refine ⟨hP, fun s => ?_⟩
  by_cases h5 : v.Kind = 25
  ·rcases Vo hc with ⟨k1, k2, k3⟩ | ⟨k1, k2, k3, k4, k5, k6, k7⟩
   ·omega
   obtain ⟨m', rfl⟩ : ∃ m', m = m' + 1 := ⟨m - 1, by omega⟩
   obtain ⟨s1, s2, s3, s4, s5⟩ := G0 k4
   rw [Qck, if_pos h5, List.cons_append, Yn]
   obtain ⟨o1, o2, o3⟩ := of0
   have hz : (((0 : UInt8).toNat : Nat) : Int) = 0 := rfl
   rw [hz, Q9q o1 o3, Ql9, if_pos o2]
   have hr := Q3w (rd := Yn (U0 m')) (e := Q0.byt) v.Items [] s (fun x hx t => (ih x hx m' (hf.items x hx) (by
    have := (k7 x hx).1
    rwa [show (((m' + 1 : Nat) : Int) - 1) = (m' : Int) by omega] at this) (by have := Qj7 hx; omega)).2 t)
   rw [s4 h5, List.nil_append] at hr
   have hv : (⟨25, 0, [], v.Items⟩ : Q0) = v := by
    apply Q0.ext' <;> simp [h5, s1]
    exact (s3 (by omega)).symm
   unfold Qmd
   rw [hr, if_neg (by simp), hv, if_neg (by simp)]
   simp only [Prod.mk.injEq, true_and, and_true]
   simp
  ·obtain ⟨g1, g2⟩ := Qfx hf hc h5
   obtain ⟨d1, d2, d3⟩ := Q07 _ _ g1
   rw [Qck, if_neg h5, List.cons_append, Yn, Q1m (Q56 d1), hP v.cod d1 d3 h5 g2 s, if_neg (by simp)]
   simp
end
end Go.Av
namespace Go.Av
noncomputable section
open Go.Proofs
set_option maxRecDepth 100000
def Q2x (v : Q0) : Int := if nnS v = true then (if v.Kind = 11 then 2143289344 else 9221120237041090560) else v.N'
mutual
def Q0.nrm : Q0 → Q0
 | .mk k n t is => ⟨k, Q2x ⟨k, n, t, is⟩, t, Q0.nrms is⟩
def Q0.nrms : List Q0 → List Q0
 | [] => []
 | v :: l => v.nrm :: Q0.nrms l
end
theorem Qj2 : ∀ l, Q0.nrms l = l.map Q0.nrm
 | [] => rfl
 | v :: l => by rw [Q0.nrms, Qj2 l]; rfl
theorem Q7o (v : Q0) : v.nrm = ⟨v.Kind, Q2x v, v.Text, v.Items.map Q0.nrm⟩ := by cases v; rw [Q0.nrm, Qj2]
theorem Q12 (v : Q0) : v.nrm.Kind = v.Kind := by rw [Q7o]
theorem Q6m (v : Q0) : v.nrm.Text = v.Text := by rw [Q7o]
theorem Ji (v : Q0) : v.nrm.Items = v.Items.map Q0.nrm := by rw [Q7o]
theorem Q72 (v : Q0) : v.nrm.N' = Q2x v := by rw [Q7o]
theorem Qtb (x : Int) : Q8 .neq x 0 = decide (x ≠ 0) := by rw [Bool.eq_iff_iff, U8]; simp
theorem Q5h (v : Q0) : nnS v = ((decide (v.Kind = 11) && (decide (Q8t .u64 (Q32 .u64 v.N' 23) 255 = 255) && decide (Q1l .u64 v.N' 41 ≠ 0))) || (decide (v.Kind = 12) && (decide (Q8t .u64 (Q32 .u64 v.N' 52) 2047 = 2047) && decide (Q1l .u64 v.N' 12 ≠ 0)))) := by
 have h := Qqv 0 v
 unfold Zc at h
 simp only [Q9, V0] at h
 by_cases k1 : v.Kind = 11
 ·have k2 : ¬ v.Kind = 12 := by omega
  rw [if_pos k1] at h
  split at h
  ·rename_i h1
   simp only [Option.some.injEq] at h
   rw [← h]
   rw [Qtb]
   simp [k1, h1]
  ·rename_i h1
   simp only [Option.some.injEq] at h
   rw [← h]
   simp [k1, h1]
 ·rw [if_neg k1] at h
  by_cases k2 : v.Kind = 12
  ·rw [if_pos k2] at h
   split at h
   ·rename_i h1
    simp only [Option.some.injEq] at h
    rw [← h]
    rw [Qtb]
    simp [k2, h1]
   ·rename_i h1
    simp only [Option.some.injEq] at h
    rw [← h]
    simp [k2, h1]
  ·rw [if_neg k2] at h
   simp only [Option.some.injEq] at h
   rw [← h]
   simp [k1, k2]
theorem Q7e {v : Q0} (h : nnS v = true) : v.Kind = 11 ∨ v.Kind = 12 := by
 rw [Q5h] at h
 simp only [Bool.or_eq_true, Bool.and_eq_true, decide_eq_true_eq] at h
 omega
theorem Q8q {v w : Q0} (h1 : v.Kind = w.Kind) (h2 : v.N' = w.N') : nnS v = nnS w := by rw [Q5h, Q5h, h1, h2]
theorem Qa9 (k : Int) (t : List UInt8) (is : List Q0) (h : k = 11 ∨ k = 12) : nnS ⟨k, if k = 11 then 2143289344 else 9221120237041090560, t, is⟩ = true := by
 rcases h with rfl | rfl
 ·exact (Q8q (w := ⟨11, 2143289344, [], []⟩) rfl rfl).trans (by rw [Q5h]; decide)
 ·exact (Q8q (w := ⟨12, 9221120237041090560, [], []⟩) rfl rfl).trans (by rw [Q5h]; decide)
theorem Qif {v : Q0} (h : nnS v = true) : Q2x v = if v.Kind = 11 then 2143289344 else 9221120237041090560 := by unfold Q2x; rw [if_pos h]
theorem Qbb {v : Q0} (h : nnS v = false) : Q2x v = v.N' := by unfold Q2x; rw [if_neg (by simp [h])]
theorem Qr6 (v : Q0) : nnS v.nrm = nnS v := by
 cases h : nnS v with
 | true =>
  have hk := Q7e h
  rw [Q7o]
  unfold Q2x
  rw [if_pos h]
  exact Qa9 _ _ _ hk
 | false =>
  rw [← h]
  refine Q8q (Q12 v) ?_
  rw [Q72]
  unfold Q2x
  rw [if_neg (by simp [h])]
theorem Q5x (v : Q0) : v.nrm.sz = v.sz := by
 induction v using Q0.ind with
 | h v ih =>
  have hl : ∀ l : List Q0, (∀ x ∈ l, x.nrm.sz = x.sz) → Q0.szs (l.map Q0.nrm) = Q0.szs l := by
   intro l
   induction l with
   | nil => intro _; rfl
   | cons x l ihl => intro h; simp only [List.map_cons, Q0.szs, h x (.head _), ihl (fun y hy => h y (.tail _ hy))]
  rw [Q0.sz_eq, Ji, hl _ ih, v.sz_eq]
theorem Qar (v : Q0) : v.nrm.wgt = v.wgt := by
 induction v using Q0.ind with
 | h v ih =>
  have hl : ∀ l : List Q0, (∀ x ∈ l, x.nrm.wgt = x.wgt) → Q0.wgts (l.map Q0.nrm) = Q0.wgts l := by
   intro l
   induction l with
   | nil => intro _; rfl
   | cons x l ihl => intro h; simp only [List.map_cons, Q0.wgts, h x (.head _), ihl (fun y hy => h y (.tail _ hy))]
  rw [Q0.wgt_eq, Ji, hl _ ih, v.wgt_eq, Q6m]
theorem Qn2 {v : Q0} (h : okU v.N') : okU (Q2x v) := by
 unfold Q2x
 split
 ·split <;> exact ⟨by omega, by omega⟩
 ·exact h
theorem Qb7 {v : Q0} (h : Fine v) : Fine v.nrm := by
 induction v using Q0.ind with
 | h v ih =>
  refine .mk _ (by rw [Q72]; exact Qn2 h.num) (by rw [Q6m]; exact h.text) (fun x hx => ?_)
  rw [Ji] at hx
  obtain ⟨y, hy, rfl⟩ := List.mem_map.1 hx
  exact ih y hy (h.items y hy)
theorem Qcb {v : Q0} (h : v.Kind ≠ 11 ∧ v.Kind ≠ 12) : Q2x v = v.N' := by
 unfold Q2x
 rw [if_neg (fun hn => by have := Q7e hn; omega)]
theorem Qc5 : ∀ (n : Nat) (a b : Q0), a.sz ≤ n → Q34 a.nrm b.nrm = true → Q34 a b = true
 | 0, a, b, h, _ => by have := a.sz_eq; omega
 | n + 1, a, b, h, hh => by
  have hs := a.sz_eq
  rw [Qcw] at hh ⊢
  simp only [Q12, Q6m, Ji, Q72, Qr6, List.length_map, Bool.and_eq_true, Bool.or_eq_true, decide_eq_true_eq] at hh ⊢
  obtain ⟨h1, h2, h3, h4, h5⟩ := hh
  refine ⟨h1, h2, h3, ?_, ?_⟩
  ·rcases h4 with h4 | h4
   ·cases na : nnS a <;> cases nb : nnS b
    ·left; rw [Qbb na, Qbb nb] at h4; exact h4
    ·rw [Qbb na, Qif nb] at h4
     have hk := Q7e nb
     have : nnS a = true := by
      rw [← Qa9 a.Kind [] [] (by omega)]
      refine Q8q rfl ?_
      show a.N' = _
      rw [h4, h1]
     rw [na] at this; cases this
    ·rw [Qif na, Qbb nb] at h4
     have hk := Q7e na
     have : nnS b = true := by
      rw [← Qa9 b.Kind [] [] (by omega)]
      refine Q8q rfl ?_
      show b.N' = _
      rw [← h4, h1]
     rw [nb] at this; cases this
    ·right; exact ⟨rfl, rfl⟩
   ·right; exact h4
  ·have hl : ∀ (l m : List Q0), Q0.szs l ≤ n → Q1o (l.map Q0.nrm) (m.map Q0.nrm) = true → Q1o l m = true := by
    intro l
    induction l with
    | nil => intro m _ _; rfl
    | cons x l ihl =>
     intro m hz hm
     simp only [Q0.szs] at hz
     cases m with
     | nil => simp [Q1o] at hm
     | cons y m =>
      simp only [List.map_cons, Q1o, Bool.and_eq_true] at hm ⊢
      exact ⟨Qc5 n x y (by omega) hm.1, ihl m (by omega) hm.2⟩
   exact hl _ _ (by omega) h5
theorem Qmq {v : Q0} (h : Q4m v = 0) : Q4m v.nrm = 0 := by
 unfold Q4m at h ⊢
 rw [Q12]
 split
 ·rfl
 ·rename_i hk
  rw [if_neg hk] at h
  split at h
  ·cases h
  ·rename_i hne
   rw [if_neg]
   rintro ⟨i, j, h1, h2, h3, h4, h5, x, y, hx, hy, ha⟩
   rw [Ji, List.length_map] at h3
   rw [Ji, List.getElem?_map] at hx hy
   cases hxi : v.Items[i]? with
   | none => rw [hxi] at hx; cases hx
   | some x' =>
    cases hyi : v.Items[j]? with
    | none => rw [hyi] at hy; cases hy
    | some y' =>
     rw [hxi] at hx; rw [hyi] at hy
     cases hx; cases hy
     exact hne ⟨i, j, h1, h2, h3, h4, h5, x', y', hxi, hyi, Qc5 _ x' y' (Nat.le_refl _) ha⟩
theorem Qjg {v : Q0} (h : Q8e v.Kind v.N' = true) : Q8e v.Kind (Q2x v) = true := by
 unfold Q2x
 split
 ·rename_i hn
  rcases Q7e hn with hk | hk <;> rw [hk] <;> decide
 ·exact h
theorem Qhu {v : Q0} (h : V2 v = 0) : V2 v.nrm = 0 := by
 obtain ⟨c1, c2, c3, c4, c5, c6, c7⟩ := Ud h
 unfold V2 at h ⊢
 simp only [Q12, Q6m, Ji, Q72, c4, List.map_nil] at h ⊢
 rw [Qjg c3]
 rw [c3] at h
 exact h
theorem Qgy {v : Q0} (hk : 22 ≤ v.Kind) (h : J6 v = true) : J6 v.nrm = true := by
 obtain ⟨s1, s2, s3, s4, s5⟩ := G0 h
 have : v.nrm = ⟨v.Kind, v.N', [], v.Items.map Q0.nrm⟩ := by rw [Q7o, Qcb (by omega), s1]
 rw [this]
 exact Qlf s2 s3 (fun h => by rw [List.length_map]; exact s4 h) (fun h => by rw [List.length_map]; exact s5 h)
theorem Q78 (v : Q0) : ∀ m : Int, W0 v m = 0 → W0 v.nrm m = 0 := by
 induction v using Q0.ind with
 | h v ih =>
  intro m h
  rcases Vo h with ⟨k1, k2, k3⟩ | ⟨k1, k2, k3, k4, k5, k6, k7⟩
  ·rw [Q4u, Q12, if_neg (by omega), if_neg (by omega), if_pos k2]
   exact Qhu k3
  ·rw [Q4u, Q12, if_neg (by omega), if_neg (by omega), if_neg (by omega), if_neg k3, Qgy k1 k4, if_neg (by simp), Ji, List.length_map, if_neg (by omega), Qmq k6, Q72, Qcb (by omega)]
   refine Q9n _ _ _ _ (fun x hx => ?_)
   obtain ⟨y, hy, rfl⟩ := List.mem_map.1 hx
   refine ⟨ih y hy _ (k7 y hy).1, fun hk => ?_⟩
   rw [Q12]; exact (k7 y hy).2 hk
theorem Qkh {R : Q0 → Option Q0} {N : Nat} {v : Q0} {c : Int} (hb : v.sz < 1000000000) (hR : ∀ y ∈ v.Items, R y = some y.nrm) : ∀ (n i : Nat), i ≤ v.Items.length → v.Items.length - i < n →
  Xq R N v c n (i : Int) ((v.Items.take i).map Q0.nrm) = some ⟨v.Kind, c, v.Text, v.Items.map Q0.nrm⟩
 | 0, i, _, h => by omega
 | n + 1, i, hi, hn => by
  have hs := v.sz_eq
  have hl := Q0.szs_len v.Items
  simp only [Xq, Q9, Vh, Zx, Xr]
  by_cases h : i < v.Items.length
  ·rw [if_pos (by omega), List.getElem?_eq_getElem h]
   simp only [Option.bind_some, hR _ (List.getElem_mem h)]
   rw [if_pos (by rw [Nat.ble_eq, List.length_map, List.length_take]; omega), Qx _ (by omega)]
   have e : (v.Items.take i).map Q0.nrm ++ [v.Items[i].nrm] = (v.Items.take (i + 1)).map Q0.nrm := by
    rw [List.take_succ_eq_append_getElem h, List.map_append]; rfl
   rw [e]
   exact_mod_cast Qkh (N := N) hb hR n (i + 1) (by omega) (by omega)
  ·rw [if_neg (by omega), List.take_of_length_le (by omega)]
theorem Qbg : ∀ (N : Nat) (v : Q0), v.sz < N → v.sz < 1000000000 → Yb N v = some v.nrm
 | 0, v, h, _ => by omega
 | N + 1, v, h, h2 => by
  have hs := v.sz_eq
  have hl := Q0.szs_len v.Items
  have hL : ∀ c, Y8 (Yb N) N v c = some ⟨v.Kind, c, v.Text, v.Items.map Q0.nrm⟩ := fun c =>
   Qkh (R := Yb N) (N := N) (v := v) h2 (fun y hy => Qbg N y (by have := Q0.szs_mem _ y hy; omega) (by have := Q0.szs_mem _ y hy; omega)) N 0 (by omega) (by omega)
  rw [Q7o]
  show Vn (Yb N) N v = _
  simp only [Vn, Xo, Xi, hL, Q9, V0, U8]
  have hd := Q5h v
  unfold Q2x
  by_cases k1 : v.Kind = 11
  ·have k2 : ¬ v.Kind = 12 := by omega
   simp only [k1, decide_true, Bool.true_and, show decide ((11 : Int) = 12) = false from rfl, Bool.false_and, Bool.or_false] at hd
   simp only [if_pos k1, if_neg k2]
   by_cases q1 : Q8t .u64 (Q32 .u64 v.N' 23) 255 = 255 <;> by_cases q2 : Q1l .u64 v.N' 41 ≠ 0 <;> simp [hd, q1, q2]
  ·simp only [if_neg k1]
   by_cases k2 : v.Kind = 12
   ·simp only [k2, show decide ((12 : Int) = 11) = false from rfl, decide_true, Bool.true_and, Bool.false_and, Bool.false_or] at hd
    simp only [if_pos k2]
    by_cases q1 : Q8t .u64 (Q32 .u64 v.N' 52) 2047 = 2047 <;> by_cases q2 : Q1l .u64 v.N' 12 ≠ 0 <;> simp [hd, q1, q2]
   ·simp only [k1, k2, decide_false, Bool.false_and, Bool.or_false] at hd
    simp [hd, k2]
end
end Go.Av
namespace Go.Av
noncomputable section
open Go.Proofs
set_option maxRecDepth 100000
end
end Go.Av
