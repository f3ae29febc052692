/- The law. Part of a proof of a given statement: for every input the law returns true and the arguments read as before; no condition beyond the given row. -/
import Derived.Test.YtegedmcbfmfjeaaDoorPlain
import Derived.Test.YtegedmcbfmfjeaaDoorLiftF3
namespace Go.Av
noncomputable section
open Go.Proofs
set_option maxRecDepth 100000
def Qm1 (k : Nat) : Bool := !(Wm k).2.2.2.2 || (if (Wm k).2.2.2.1 then decide (((Wm k).2.2.1 = 1 ∨ (Wm k).2.2.1 = 4) ∧ 22 ≤ (Wm k).2.1 ∧ (Wm k).2.1 ≤ 24) else decide ((Wm k).2.1 = 25 ∨ (Wm k).2.1 = 22))
theorem Qj2 : ((List.range 40).all Qm1) = true := by decide +kernel
theorem Qng {P : Int × Int × Int × Bool × Bool → Prop} {B : Nat → Bool} (hB : ((List.range 40).all B) = true) (hP : ∀ k, B k = true → P (Wm k)) {code : Int} (h : ofB code = true) : P (ofT code) := by
 have h1 : bsI code < 40 ∧ U4 (bsI code) = code := by simpa [ofB] using h
 have := List.all_eq_true.1 hB (bsI code) (by simpa using h1.1)
 have e : ofT code = Wm (bsI code) := by unfold ofT; rw [if_pos h]
 rw [e]; exact hP _ this
theorem Ja {code : Int} (h : ofB code = true) (hi : (ofS code).Items = true) : ((ofS code).Sized = true → ((ofS code).Width = 1 ∨ (ofS code).Width = 4) ∧ 22 ≤ (ofS code).Kind ∧ (ofS code).Kind ≤ 24) ∧ ((ofS code).Sized = false → (ofS code).Kind = 25 ∨ (ofS code).Kind = 22) :=
 Qng (P := fun t => t.2.2.2.2 = true → (t.2.2.2.1 = true → (t.2.2.1 = 1 ∨ t.2.2.1 = 4) ∧ 22 ≤ t.2.1 ∧ t.2.1 ≤ 24) ∧ (t.2.2.2.1 = false → t.2.1 = 25 ∨ t.2.1 = 22)) Qj2 (fun k hk h1 => by
  simp only [Qm1, h1, Bool.not_true, Bool.false_or] at hk
  refine ⟨fun h2 => ?_, fun h2 => ?_⟩
  ·rw [h2] at hk; simpa using hk
  ·rw [h2] at hk; simpa using hk) h hi
theorem Qj4 {R : List UInt8 → Int → Option Rd} {N : Nat} {most : Int} {rd : List UInt8 → Rd} {text : List UInt8} (hm : 1 ≤ most ∧ most ≤ 32) (ht : text.length ≤ 600000) (hN : 100 < N) (hR : ∀ s, s.length ≤ text.length → R s (most - 1) = some (rd s)) (hg : Qkl rd) :
  ∀ (n i at' : Nat) (l : List Q0), i ≤ 2 → 2 - i < n → at' ≤ text.length → l.length = i →
  Zs R N most n (i : Int) text (at' : Int) 0 l = some (if (Vk rd (2 - i) (text.drop at') l).2 ≠ 0 then (Jv, 0, (Vk rd (2 - i) (text.drop at') l).2) else (⟨25, 0, [], (Vk rd (2 - i) (text.drop at') l).1.1⟩, ((text.length - (Vk rd (2 - i) (text.drop at') l).1.2.length : Nat) : Int), 0))
 | 0, i, at', l, _, h, _, _ => by omega
 | n + 1, i, at', l, hi, hn, ha, hl => by
  simp only [Zs, Q7, Wg, Wx, Va, Q9p N text at' 0 ha, Option.bind_some, Z5 (most - 1) (show _ by omega), hR (text.drop at') (by rw [List.length_drop]; omega)]
  by_cases hic : i < 2
  ·rw [if_pos (by omega)]
   obtain ⟨k, hk⟩ : ∃ k, 2 - i = k + 1 := ⟨2 - i - 1, by omega⟩
   rw [hk, Vk]
   have hgd := hg (text.drop at') (by rw [List.length_drop]; omega)
   generalize hr : rd (text.drop at') = r at hgd ⊢
   obtain ⟨x, m, e⟩ := r
   simp only [] at hgd ⊢
   by_cases he : e = 0
   ·subst he
    obtain ⟨g1, g2, g3⟩ := hgd rfl
    rw [List.length_drop] at g2
    obtain ⟨mm, rfl⟩ := Int.eq_ofNat_of_zero_le g1
    rw [if_pos rfl, Q1c N text at' mm (by unfold Q83; omega) ha (by omega), if_pos (by omega)]
    simp only [Option.bind_some]
    rw [if_neg (by simp), if_pos (by simp [Nat.ble_eq]; omega), Z5 _ (by omega), if_neg (show ¬ ((0 : Int) ≠ 0) by simp)]
    have ih := Qj4 hm ht hN hR hg n (i + 1) (at' + mm) (l ++ [x]) (by omega) (by omega) (by omega) (by simp [hl])
    rw [show ((i : Int) + 1) = ((i + 1 : Nat) : Int) by push_cast; rfl, ih, show 2 - (i + 1) = k by omega, Q3g ha]
    simp only [Int.toNat_natCast]
   ·rw [if_neg he, if_pos (show e ≠ 0 from he), if_pos (show e ≠ 0 from he)]
    simp only []
    rw [if_pos (show e ≠ 0 from he)]; rfl
  ·rw [if_neg (by omega), show 2 - i = 0 by omega, Vk]
   simp only [Qj, Option.bind_some]
   rw [if_neg (show ¬ ((0 : Int) ≠ 0) by simp), List.length_drop]
   congr 3
   omega
theorem Q60 {rd : List UInt8 → Rd} {lo : Nat} (hg : Qkl rd) (hlo : ∀ s, s.length ≤ 600000 → (rd s).2.2 = 0 → (lo : Int) ≤ (rd s).2.1 ∧ (rd s).1.sz + 1000 * lo ≤ 1 + 1000 * (rd s).2.1.toNat) : ∀ (c : Nat) (s : List UInt8) (acc : List Q0), s.length ≤ 600000 → (Vk rd c s acc).2 = 0 →
  ∃ k, k ≤ s.length ∧ (Vk rd c s acc).1.2 = s.drop k ∧ Q0.szs (Vk rd c s acc).1.1 + 1000 * (lo * c) ≤ Q0.szs acc + c + 1000 * k ∧ (Vk rd c s acc).1.1.length = acc.length + c ∧ lo * c ≤ k
 | 0, s, acc, _, _ => ⟨0, by omega, by simp [Vk], by simp [Vk], by simp [Vk], by simp⟩
 | c + 1, s, acc, hs, h => by
  rw [Vk] at h ⊢
  split at h
  ·rename_i he; exact absurd h he
  ·rename_i he
   rw [if_neg he]
   obtain ⟨g0, g0'⟩ := hlo s hs (Classical.byContradiction he)
   obtain ⟨g1, g2, g3⟩ := hg s hs (Classical.byContradiction he)
   obtain ⟨k, k1, k2, k3, k4, k5⟩ := Q60 hg hlo c (s.drop (rd s).2.1.toNat) (acc ++ [(rd s).1]) (by rw [List.length_drop]; omega) h
   rw [List.length_drop] at k1
   refine ⟨(rd s).2.1.toNat + k, by omega, by rw [k2, List.drop_drop], ?_, by rw [k4]; simp; omega, by rw [Nat.mul_succ]; omega⟩
   rw [Q0.szs_app] at k3
   rw [Nat.mul_succ]
   simp only [Q0.szs] at k3
   omega
theorem Q7y {data : Int → List UInt8 → Rd} (h : ∀ code, Qkl (data code)) : Qkl (W8 data) ∧ ∀ s, s.length ≤ 600000 → (W8 data s).2.2 = 0 → ((1 : Nat) : Int) ≤ (W8 data s).2.1 ∧ (W8 data s).1.sz + 1000 * 1 ≤ 1 + 1000 * (W8 data s).2.1.toNat := by
 have key : ∀ s, s.length ≤ 600000 → (W8 data s).2.2 = 0 → 1 ≤ (W8 data s).2.1 ∧ (W8 data s).2.1 ≤ s.length ∧ (W8 data s).1.sz + 1000 * 1 ≤ 1 + 1000 * (W8 data s).2.1.toNat := by
  intro s hs he
  cases s with
  | nil => simp [W8] at he
  | cons b t =>
   simp only [W8] at he ⊢
   split at he
   ·rename_i h1; exact absurd he h1
   ·rename_i h1
    rw [if_neg h1]
    simp only [List.length_cons] at hs ⊢
    obtain ⟨g1, g2, g3⟩ := h b.toNat t (by omega) (Classical.byContradiction h1)
    refine ⟨by omega, by push_cast; omega, ?_⟩
    have : ((data (b.toNat : Int) t).2.1 + 1).toNat = (data (b.toNat : Int) t).2.1.toNat + 1 := by omega
    rw [this]; omega
 exact ⟨fun s hs he => by obtain ⟨a, b, c⟩ := key s hs he; exact ⟨by omega, b, by omega⟩, fun s hs he => ⟨(key s hs he).1, (key s hs he).2.2⟩⟩
theorem Qne {k num : Int} {q : (List Q0 × List UInt8) × Int} {tot : Nat} (h : (Qb2 k num q tot).2.2 = 0) : q.2 = 0 ∧ q.1.2 = [] ∧ Jw ⟨k, num, [], q.1.1⟩ = 0 ∧ Qb2 k num q tot = (⟨k, num, [], q.1.1⟩, (tot : Int), 0) := by
 unfold Qb2 at h ⊢
 split at h
 ·simp only [] at h
  split at h
  ·cases h
  ·rename_i h1 _; exact absurd h h1
 split at h
 ·cases h
 split at h
 ·rename_i h3; exact absurd h h3
 ·rename_i h1 h2 h3
  rw [if_neg h1, if_neg h2, if_neg h3]
  exact ⟨Classical.byContradiction h1, Classical.byContradiction h2, Classical.byContradiction h3, rfl⟩
theorem Qlj {data : Int → List UInt8 → Rd} {c : Qg} {s : List UInt8} (h : (Q3h data c s).2.2 = 0) : ∃ (body : List UInt8) (num : Int) (q : (List Q0 × List UInt8) × Int) (cnt : Nat) (rest : List UInt8), s.length ≥ c.Width.toNat + Q00 (s.take c.Width.toNat) ∧ body = (s.drop c.Width.toNat).take (Q00 (s.take c.Width.toNat)) ∧ c.Width.toNat ≤ body.length ∧ cnt ≤ 1000 ∧
  ((c.Kind ≠ 24 ∧ num = 0 ∧ rest = body.drop c.Width.toNat ∧ q = Vk (W8 data) cnt rest []) ∨ (c.Kind = 24 ∧ ∃ b : UInt8, body.drop c.Width.toNat = b :: rest ∧ ofB (b.toNat : Int) = true ∧ b.toNat ≠ 0 ∧ num = (ofS (b.toNat : Int)).Kind ∧ q = Vk (data (b.toNat : Int)) cnt rest [])) ∧
  (c.Kind = 23 → cnt % 2 = 0) ∧ (Qb2 c.Kind num q (c.Width.toNat + Q00 (s.take c.Width.toNat))).2.2 = 0 ∧ Q3h data c s = Qb2 c.Kind num q (c.Width.toNat + Q00 (s.take c.Width.toNat)) := by
 unfold Q3h at h ⊢
 split at h
 ·cases h
 rename_i h1; rw [if_neg h1]
 split at h
 ·cases h
 rename_i h2; rw [if_neg h2]
 unfold Qka at h ⊢
 split at h
 ·cases h
 rename_i h3; rw [if_neg h3]
 split at h
 ·cases h
 rename_i h4; rw [if_neg h4]
 split at h
 ·cases h
 rename_i h5; rw [if_neg h5]
 split at h
 ·rename_i h6; rw [if_pos h6]
  cases hb : ((s.drop c.Width.toNat).take (Q00 (s.take c.Width.toNat))).drop c.Width.toNat with
  | nil => rw [hb] at h; cases h
  | cons b rest =>
   rw [hb] at h
   simp only [Qoc] at h ⊢
   split at h
   ·cases h
   rename_i h7; rw [if_neg h7]
   refine ⟨_, _, _, _, rest, by omega, rfl, by omega, by omega, .inr ⟨h6, b, hb, ?_, ?_, rfl, rfl⟩, fun hk => by omega, h, rfl⟩
   ·cases ho : ofB (b.toNat : Int) with
    | true => rfl
    | false => exact absurd (.inl ho) h7
   ·exact fun ho => h7 (.inr ho)
 ·rename_i h6; rw [if_neg h6]
  exact ⟨_, _, _, _, _, by omega, rfl, by omega, by omega, .inl ⟨h6, rfl, rfl, rfl⟩, fun hk => by
   apply Classical.byContradiction
   intro hn; exact h5 ⟨hk, hn⟩, h, rfl⟩
theorem ar1 {z lo c k r : Nat} (h : z + 1000 * (lo * c) ≤ 0 + c + 1000 * k) (hk : k ≤ r) (hc : c ≤ 1000) : z ≤ 1000 + 1000 * r := by omega
theorem Qcu {code : Int} {s : List UInt8} (hs : s.length ≤ 600000) (h : (Qbw code s).2.2 = 0) : 0 ≤ (Qbw code s).2.1 ∧ (Qbw code s).2.1 ≤ s.length ∧ (Qbw code s).1.sz ≤ 1 + 1000 * (Qbw code s).2.1.toNat := by
 generalize hg : Qbw code s = g at h ⊢
 obtain ⟨x, n, e⟩ := g
 simp only at h
 subst h
 obtain ⟨h1, h2, h3, h4, h5, h6, h7⟩ := reads (by unfold Q83; omega) hg
 refine ⟨h1, h2, ?_⟩
 rw [Q0.sz_eq, (J2 h5).2.2.2.1]
 simp only [Q0.szs]; omega
theorem Q7k : ∀ (m : Nat) (code : Int), Qkl (Jm m code) := by
 intro m
 induction m with
 | zero =>
  intro code s hs h
  rw [Jm] at h ⊢
  split at h
  ·cases h
  rename_i h1; rw [if_neg h1]
  split at h
  ·rename_i h2; rw [if_pos h2]; exact Qcu hs h
  ·cases h
 | succ m ih =>
  intro code s hs h
  obtain ⟨hrd, hr1⟩ := Q7y ih
  rw [Jm] at h ⊢
  split at h
  ·cases h
  rename_i h1; rw [if_neg h1]
  split at h
  ·rename_i h2; rw [if_pos h2]; exact Qcu hs h
  rename_i h2; rw [if_neg h2]
  split at h
  ·rename_i h3; rw [if_pos h3]
   unfold Qlm at h ⊢
   split at h
   ·rename_i h4; exact absurd h h4
   ·rename_i h4
    rw [if_neg h4]
    obtain ⟨k, k1, k2, k3, k4, k5⟩ := Q60 hrd hr1 2 s [] hs (Classical.byContradiction h4)
    simp only [k2, List.length_drop]
    refine ⟨by omega, by omega, ?_⟩
    rw [Q0.sz_eq]
    simp only [Q0.szs] at k3 ⊢
    omega
  rename_i h3; rw [if_neg h3]
  split at h
  ·rename_i h4; rw [if_pos h4]; simp only []; exact ⟨by omega, by omega, by rw [Q0.sz_eq]; simp [Q0.szs]⟩
  ·rename_i h4; rw [if_neg h4]
   obtain ⟨body, num, q, cnt, rest, p1, p2, p3, p4, p5, p6, p7, p8⟩ := Qlj h
   obtain ⟨f1, f2, f3, f4⟩ := Qne p7
   rw [p8, f4]
   simp only []
   have hbl : body.length ≤ Q00 (s.take (ofS code).Width.toNat) := by rw [p2, List.length_take]; omega
   have hq : Q0.szs q.1.1 ≤ 1000 + 1000 * rest.length ∧ rest.length ≤ body.length := by
    rcases p5 with ⟨_, _, e1, e2⟩ | ⟨_, b, e0, _, _, _, e2⟩
    ·have hrl : rest.length ≤ body.length := by rw [e1, List.length_drop]; omega
     have hbl2 : body.length ≤ s.length := by rw [p2, List.length_take, List.length_drop]; omega
     rw [e2] at f1 ⊢
     obtain ⟨k, k1, k2, k3, k4, k5⟩ := Q60 hrd hr1 cnt rest [] (by omega) f1
     simp only [Q0.szs] at k3
     exact ⟨ar1 k3 k1 p4, hrl⟩
    ·have hrl : rest.length ≤ body.length := by
      have := congrArg List.length e0
      rw [List.length_drop, List.length_cons] at this; omega
     have hbl2 : body.length ≤ s.length := by rw [p2, List.length_take, List.length_drop]; omega
     rw [e2] at f1 ⊢
     obtain ⟨k, k1, k2, k3, k4, k5⟩ := Q60 (lo := 0) (ih _) (fun s hs he => ⟨(ih _ s hs he).1, by have := (ih _ s hs he).2.2; omega⟩) cnt rest [] (by omega) f1
     simp only [Q0.szs] at k3
     exact ⟨ar1 k3 k1 p4, hrl⟩
   clear p5
   refine ⟨by omega, by omega, ?_⟩
   have hob : ofB code = true := by
    cases ho : ofB code with
    | true => rfl
    | false => exact absurd ho h1
   have hit : (ofS code).Items = true := by
    cases ho : (ofS code).Items with
    | true => rfl
    | false => exact absurd ho h2
   have hsz : (ofS code).Sized = true := by
    cases ho : (ofS code).Sized with
    | true => rfl
    | false => exact absurd ho h4
   have hw := ((Ja hob hit).1 hsz).1
   rw [Q0.sz_eq]
   simp only [Int.toNat_natCast]
   omega
end
end Go.Av
namespace Go.Av
noncomputable section
open Go.Proofs
set_option maxRecDepth 100000
theorem Qmy (N : Nat) (s : List UInt8) (i : Nat) (b : UInt8) (t : List UInt8) (h : s.drop i = b :: t) (hs : Q83 s) (hN : 10 < N) : Qn N ⟨s, i, 0⟩ 1 = some ((b.toNat : Int), ⟨s, ((i + 1 : Nat) : Int), 0⟩) := by
 have hl : i < s.length := by
  apply Classical.byContradiction
  intro hn
  rw [List.drop_of_length_le (by omega)] at h; cases h
 simp only [Qn]
 have := Q1c N s i 1 hs (by omega) (by omega)
 rw [show ((1 : Nat) : Int) = 1 from rfl] at this
 rw [this, if_pos (by omega), h]
 simp only [Option.bind_some, List.take_succ_cons, List.take_zero]
 rw [Qdj N [b] (by simp) hN]
 simp [Q00]
theorem Qpo (n : Nat) : ((n : Int).tmod 2 ≠ 0) = (n % 2 ≠ 0) := by
 apply propext
 rw [Int.tmod_eq_emod_of_nonneg (by omega)]
 omega
theorem Qha (m : Nat) (h : m ≤ 32) : Q3n (m : Int) = true := decide_eq_true (by omega)
theorem Qp5 {R1 : List UInt8 → Int → Option Rd} {R2 : Int → List UInt8 → Int → Option Rd} {R3 : List UInt8 → Int → Option Rd} {R4 : Qg → List UInt8 → Int → Option Rd} {N m : Nat} {c : Qg} {s : List UInt8} {data : Int → List UInt8 → Rd}
  (hN : 700000000 < N) (hm : m + 1 ≤ 32) (hs : s.length ≤ 600000) (hw : c.Width = 1 ∨ c.Width = 4) (hg : ∀ code, Qkl (data code))
  (h1 : ∀ t, t.length ≤ 600000 → R1 t (((m + 1 : Nat) : Int) - 1) = some (W8 data t)) (h2 : ∀ code t, t.length ≤ 600000 → R2 code t (((m + 1 : Nat) : Int) - 1) = some (data code t)) :
  Wr R1 R2 R3 R4 N c s ((m + 1 : Nat) : Int) = some (Q3h data c s) := by
 obtain ⟨w, hw'⟩ : ∃ w : Nat, c.Width = w ∧ (w = 1 ∨ w = 4) := by
  rcases hw with h | h
  ·exact ⟨1, h, .inl rfl⟩
  ·exact ⟨4, h, .inr rfl⟩
 obtain ⟨hw1, hw2⟩ := hw'
 have hgr := (Q7y hg).1
 have hsn : Q83 s := by unfold Q83; omega
 simp only [Wr, hw1, Q3t N s w hsn (by omega) (by omega), Option.bind_some, Qe, Q7, Va, Q2w, Wx]
 unfold Q3h
 rw [hw1, Int.toNat_natCast]
 by_cases hl : w ≤ s.length
 ·rw [if_pos hl]
  dsimp only
  rw [if_neg (show ¬ s.length < w by omega), if_neg (show ¬ ((0 : Int) ≠ 0) by simp), Q32 N s w 0 hl]
  simp only [Option.bind_some]
  have hlt := Q3b (s.take w)
  have h4 : 256 ^ (s.take w).length ≤ 256 ^ 4 := Nat.pow_le_pow_right (by omega) (by rw [List.length_take]; omega)
  have h5 : (256 : Nat) ^ 4 = 4294967296 := rfl
  generalize hn : Q00 (s.take w) = n at *
  rw [Qai _ (by omega)]
  by_cases h6 : s.length - w < n
  ·rw [if_pos (by omega), if_pos h6]; rfl
  rw [if_neg (by omega), if_neg h6, Z5 _ (by omega), Q1c N s w n hsn hl (by omega), if_pos (by omega)]
  simp only [Option.bind_some]
  have hbl : ((s.drop w).take n).length = n := by rw [List.length_take, List.length_drop]; omega
  generalize hbody : (s.drop w).take n = body at *
  have hbn : Q83 body := by unfold Q83; omega
  unfold Qka
  rw [Q3t N body w hbn (by omega) (by omega)]
  simp only [Option.bind_some]
  by_cases h7 : w ≤ body.length
  ·rw [if_pos h7]
   dsimp only
   rw [if_neg (show ¬ body.length < w by omega), if_neg (show ¬ ((0 : Int) ≠ 0) by simp)]
   have hlt2 := Q3b (body.take w)
   generalize hcnt : Q00 (body.take w) = cnt at *
   by_cases h8 : 1000 < cnt
   ·rw [if_pos (show (cnt : Int) > 1000 by omega), if_pos h8]; rfl
   rw [if_neg (show ¬ (cnt : Int) > 1000 by omega), if_neg h8]
   simp only [Qpo]
   have hm' : (1 : Int) ≤ ((m + 1 : Nat) : Int) ∧ ((m + 1 : Nat) : Int) ≤ 32 := by omega
   have arr : ∀ (L : (Int × Q1) → (Qg × Bool) → Option Rd), (∀ (b : UInt8) (t : List UInt8), body.drop w = b :: t → ofB (b.toNat : Int) = true → L ((b.toNat : Int), ⟨body, ((w + 1 : Nat) : Int), 0⟩) (ofS (b.toNat : Int), ofB (b.toNat : Int)) = some (Qb2 c.Kind (ofS (b.toNat : Int)).Kind (Vk (data (b.toNat : Int)) cnt t []) (w + n))) →
     ((Qs N ⟨body, (w : Int), 0⟩).bind fun v20 => if v20.1 = 0 then some ((⟨0, 0, [], []⟩ : Q0), (0 : Int), (5 : Int)) else (Qn N v20.2 1).bind fun v23 => (Wd N (IntKind.i64.wrap v23.1)).bind fun v25 =>
      if (!v25.2) = true then some ((⟨0, 0, [], []⟩ : Q0), (0 : Int), (8 : Int)) else if IntKind.i64.wrap v23.1 = 0 then some ((⟨0, 0, [], []⟩ : Q0), (0 : Int), (8 : Int)) else L v23 v25) = some (Qoc data cnt (w + n) c.Kind (body.drop w)) := by
    intro L hL
    rw [Q32 N body w 0 h7]
    simp only [Option.bind_some]
    cases hd : body.drop w with
    | nil =>
     have : body.length - w = 0 := by
      have := congrArg List.length hd
      rw [List.length_drop] at this; simpa using this
     rw [if_pos (by omega)]; rfl
    | cons b t =>
     have : body.length - w ≠ 0 := by
      have := congrArg List.length hd
      rw [List.length_drop, List.length_cons] at this; omega
     rw [if_neg (by omega), Qmy N body w b t hd hbn (by omega)]
     simp only [Option.bind_some, Wd, Qmt, Qoc]
     cases ho : ofB (b.toNat : Int) with
     | false => rw [if_pos (by rfl), if_pos (.inl rfl)]; rfl
     | true =>
      rw [if_neg (by simp)]
      by_cases hb0 : b.toNat = 0
      ·rw [if_pos (by omega), if_pos (.inr hb0)]; rfl
      ·rw [if_neg (by omega), if_neg (by simp [hb0])]
       have := hL b t hd ho
       rw [ho] at this; exact this
   have hR1 : ∀ t : List UInt8, t.length ≤ body.length → R1 t (((m + 1 : Nat) : Int) - 1) = some (W8 data t) := fun t ht => h1 t (by omega)
   have szb : Q0.szs ([] : List Q0) ≤ 0 + 1000 * w := by simp [Q0.szs]
   have szb1 : Q0.szs ([] : List Q0) ≤ 0 + 1000 * (w + 1) := by simp [Q0.szs]
   have kb : ∀ code : Int, ofB code = true → 0 ≤ (ofS code).Kind ∧ (ofS code).Kind ≤ 25 := fun code ho => by have := (Qbq code ho).kind; omega
   have dl : ∀ (b : UInt8) (t : List UInt8), body.drop w = b :: t → body.drop (w + 1) = t ∧ w + 1 ≤ body.length := fun b t hd => by
    refine ⟨by rw [← List.drop_drop, hd]; rfl, ?_⟩
    have := congrArg List.length hd
    rw [List.length_drop, List.length_cons] at this; omega
   by_cases h23 : c.Kind = 23
   ·rw [if_pos h23]
    by_cases h9 : cnt % 2 ≠ 0
    ·rw [if_pos h9, if_pos ⟨h23, h9⟩]; rfl
    ·rw [if_neg h9, if_neg (show ¬ (c.Kind = 23 ∧ cnt % 2 ≠ 0) from fun h => h9 h.2), if_neg (by omega), if_neg (show ¬ c.Kind = 24 by omega)]
     have := Q6n (R := R1) (N := N) (c := c) (v9 := (body, ⟨s, ((w + n : Nat) : Int), 0⟩)) (v11 := ((cnt : Int), ⟨body, (w : Int), 0⟩)) (rd := W8 data) (text := body) (cnt := cnt) (tot := w + n) hm' (by omega) (by omega) rfl rfl hN hR1 hgr N 0 w [] (by omega) (by omega) h7 rfl szb
     rw [Nat.sub_zero] at this
     exact this
   ·rw [if_neg h23, if_neg (show ¬ (c.Kind = 23 ∧ cnt % 2 ≠ 0) from fun h => h23 h.1)]
    by_cases h24 : c.Kind = 24
    ·rw [if_pos h24, if_pos h24]
     refine arr (fun v23 v25 => Zi R1 R2 N c ((m + 1 : Nat) : Int) (body, ⟨s, ((w + n : Nat) : Int), 0⟩) ((cnt : Int), ⟨body, (w : Int), 0⟩) v23 v25 N 0 v23.2.text v23.2.at' v23.2.err []) (fun b t hd ho => ?_)
     obtain ⟨d1, d2⟩ := dl b t hd
     have := Q7n (R := R1) (R2 := R2) (N := N) (c := c) (v9 := (body, ⟨s, ((w + n : Nat) : Int), 0⟩)) (v11 := ((cnt : Int), ⟨body, (w : Int), 0⟩)) (v23 := ((b.toNat : Int), ⟨body, ((w + 1 : Nat) : Int), 0⟩)) (v25 := (ofS (b.toNat : Int), ofB (b.toNat : Int))) (rd := data (b.toNat : Int)) (text := body) (cnt := cnt) (tot := w + n) (b := b) hm' (by omega) (by omega) rfl rfl rfl (kb _ ho) hN (fun t ht => h2 _ t (by omega)) (hg _) N 0 (w + 1) [] (by omega) (by omega) d2 rfl szb1
     rw [Nat.sub_zero, d1] at this
     exact this
    ·rw [if_neg h24, if_neg h24]
     have := Q7t (R := R1) (N := N) (c := c) (v9 := (body, ⟨s, ((w + n : Nat) : Int), 0⟩)) (v11 := ((cnt : Int), ⟨body, (w : Int), 0⟩)) (rd := W8 data) (text := body) (cnt := cnt) (tot := w + n) hm' (by omega) (by omega) rfl rfl hN hR1 hgr N 0 w [] (by omega) (by omega) h7 rfl szb
     rw [Nat.sub_zero] at this
     exact this
  ·rw [if_neg h7]
   dsimp only
   rw [if_pos (show body.length < w by omega), if_pos (show (3 : Int) ≠ 0 by decide)]; rfl
 ·rw [if_neg hl]
  dsimp only
  rw [if_pos (show s.length < w by omega), if_pos (show (3 : Int) ≠ 0 by decide)]; rfl
theorem Qos {m N : Nat} {s : List UInt8} (hm : m ≤ 32) (hs : s.length ≤ 600000) (h : ∀ code t, t.length ≤ s.length → Xq N code t (m : Int) = some (Jm m code t)) : Zn (N + 1) s (m : Int) = some (W8 (Jm m) s) := by
 show Vp (Zn N) (Xq N) (W7 N) (Vb N) N s (m : Int) = _
 simp only [Vp, Q9s, Qha m hm, Option.bind_some, Q7, Bool.not_true, Bool.false_eq_true, if_false]
 cases s with
 | nil => rfl
 | cons b t =>
  rw [if_neg (by simp [Q66]), show idx (b :: t) 0 = some b from rfl]
  simp only [Option.bind_some]
  rw [if_pos (by simp [Nat.ble_eq]), List.take_length, Qmt]
  simp only [List.drop_succ_cons, List.drop_zero]
  rw [h _ t (by simp)]
  simp only [Option.bind_some, Va, W8]
  by_cases he : (Jm m (b.toNat : Int) t).2.2 = 0
  ·rw [if_neg (by simp [he]), if_neg (by simp [he])]
   obtain ⟨g1, g2, g3⟩ := Q7k m (b.toNat : Int) t (by simp at hs; omega) he
   rw [Z5 _ (by simp at hs; omega)]
  ·rw [if_pos he, if_pos he]; rfl
theorem Qpz : ∀ m : Nat, m ≤ 32 → ∀ N : Nat, 700000100 + 4 * m < N → ∀ (code : Int) (s : List UInt8), s.length ≤ 600000 → Xq N code s (m : Int) = some (Jm m code s) := by
 intro m
 induction m with
 | zero =>
  intro hm N hN code s hs
  obtain ⟨N, rfl⟩ : ∃ K, N = K + 1 := ⟨N - 1, by omega⟩
  show Wl (Zn N) (Xq N) (W7 N) (Vb N) N code s ((0 : Nat) : Int) = _
  simp only [Wl, Q9s, Qha 0 hm, Option.bind_some, Q7, Bool.not_true, Bool.false_eq_true, if_false, Wd, Wx, Jm]
  cases h1 : ofB code with
  | false => rfl
  | true =>
   simp only [Bool.not_true, Bool.false_eq_true, if_false, Bool.true_eq_false]
   cases h2 : (ofS code).Items with
   | false =>
    simp only [Bool.not_false, if_true]
    rw [Qls N code s (by unfold Q83; omega) (by omega) (by omega)]; rfl
   | true => rfl
 | succ m ih =>
  intro hm N hN code s hs
  obtain ⟨N, rfl⟩ : ∃ K, N = K + 3 := ⟨N - 3, by omega⟩
  show Wl (Zn (N + 2)) (Xq (N + 2)) (W7 (N + 2)) (Vb (N + 2)) (N + 2) code s ((m + 1 : Nat) : Int) = _
  simp only [Wl, Q9s, Qha (m + 1) hm, Option.bind_some, Q7, Bool.not_true, Bool.false_eq_true, if_false, Wd, Wx, Jm]
  cases h1 : ofB code with
  | false => rfl
  | true =>
   simp only [Bool.not_true, Bool.false_eq_true, if_false, Bool.true_eq_false]
   cases h2 : (ofS code).Items with
   | false =>
    simp only [Bool.not_false, if_true]
    rw [Qls (N + 2) code s (by unfold Q83; omega) (by omega) (by omega)]; rfl
   | true =>
    simp only [Bool.not_true, Bool.false_eq_true, if_false, Bool.true_eq_false]
    rw [if_neg (show ¬ (((m + 1 : Nat) : Int) = 0) by omega)]
    have hR : ∀ t : List UInt8, t.length ≤ 600000 → Zn (N + 1) t (((m + 1 : Nat) : Int) - 1) = some (W8 (Jm m) t) := fun t ht => by
     rw [show (((m + 1 : Nat) : Int) - 1) = (m : Int) by omega]
     exact Qos (by omega) ht (fun code u hu => ih (by omega) N (by omega) code u (by omega))
    have hD : ∀ (code : Int) (t : List UInt8), t.length ≤ 600000 → Xq (N + 1) code t (((m + 1 : Nat) : Int) - 1) = some (Jm m code t) := fun code t ht => by
     rw [show (((m + 1 : Nat) : Int) - 1) = (m : Int) by omega]
     exact ih (by omega) (N + 1) (by omega) code t ht
    by_cases h3 : (ofS code).Kind = 25
    ·rw [if_pos h3, if_pos h3]
     show (W3 (Zn (N + 1)) (Xq (N + 1)) (W7 (N + 1)) (Vb (N + 1)) (N + 1) s ((m + 1 : Nat) : Int)).bind _ = _
     simp only [W3]
     have := Qj4 (R := Zn (N + 1)) (N := N + 1) (most := ((m + 1 : Nat) : Int)) (rd := W8 (Jm m)) (text := s) (by omega) (by omega) (by omega) (fun t ht => hR t (by omega)) (Q7y (Q7k m)).1 (N + 1) 0 0 [] (by omega) (by omega) (by omega) rfl
     rw [show ((0 : Nat) : Int) = 0 from rfl] at this
     rw [this]; rfl
    ·rw [if_neg h3, if_neg h3]
     cases h4 : (ofS code).Sized with
     | false => rfl
     | true =>
      simp only [Bool.not_true, Bool.false_eq_true, if_false, Bool.true_eq_false]
      show (Wr (Zn (N + 1)) (Xq (N + 1)) (W7 (N + 1)) (Vb (N + 1)) (N + 1) (ofS code) s ((m + 1 : Nat) : Int)).bind _ = _
      rw [Qp5 (m := m) (c := ofS code) (by omega) hm hs ((Ja h1 h2).1 h4).1 (Q7k m) hR hD]; rfl
theorem Qod (m N : Nat) (s : List UInt8) (hm : m ≤ 32) (hN : 700000200 + 4 * m < N) (hs : s.length ≤ 600000) : Zn N s (m : Int) = some (W8 (Jm m) s) := by
 obtain ⟨N, rfl⟩ : ∃ K, N = K + 1 := ⟨N - 1, by omega⟩
 exact Qos hm hs (fun code t ht => Qpz m hm N (by omega) code t (by omega))
end
end Go.Av
namespace Go.Av
noncomputable section
open Go.Proofs
set_option maxRecDepth 100000
theorem Qhi (n m k : Nat) : n &&& (m * 2 ^ k) = ((n / 2 ^ k) &&& m) * 2 ^ k := by
 apply Nat.eq_of_testBit_eq
 intro i
 rw [Nat.testBit_and, Nat.testBit_mul_two_pow, Nat.testBit_mul_two_pow, Nat.testBit_and, Nat.testBit_div_two_pow]
 by_cases h : k ≤ i
 ·simp [h]
 ·simp [h]
theorem Qnw (n k : Nat) (h : k ≤ 64) : Q21 .u64 (n : Int) (k : Int) = ((n / 2 ^ k : Nat) : Int) := by
 have e : min (k : Int).toNat IntKind.u64.bits = k := by simp [IntKind.bits]; omega
 simp only [Q21, e]
 rw [Int.fdiv_eq_ediv_of_nonneg _ (by exact_mod_cast Nat.zero_le _)]
 push_cast; rfl
theorem Qpf (n e k : Nat) (hn : n < 18446744073709551616) (hk : k ≤ 63) (he : (2 ^ e - 1) * 2 ^ k < 18446744073709551616) (he2 : 2 ^ e - 1 < 18446744073709551616) :
  (Gf .u64 (Q21 .u64 (n : Int) (k : Int)) ((2 ^ e - 1 : Nat) : Int) = ((2 ^ e - 1 : Nat) : Int)) = (Gf .u64 (n : Int) (((2 ^ e - 1) * 2 ^ k : Nat) : Int) = (((2 ^ e - 1) * 2 ^ k : Nat) : Int)) := by
 rw [Qnw n k (by omega), Q0p _ _ (Nat.lt_of_le_of_lt (Nat.div_le_self _ _) hn) he2, Q0p _ _ hn he, Qhi]
 apply propext
 have hp : 0 < 2 ^ k := Nat.two_pow_pos k
 constructor
 ·intro h
  have := Int.ofNat.inj h
  rw [this]
 ·intro h
  have := Nat.eq_of_mul_eq_mul_right hp (Int.ofNat.inj h)
  rw [this]
theorem Qp2 (n : Nat) (hn : n < 18446744073709551616) : (Gf .u64 (n : Int) 8388607 ≠ 0) = (Jq .u64 (n : Int) 41 ≠ 0) := by
 have e : Jq .u64 (n : Int) 41 = ((n : Int) * 2199023255552) % 18446744073709551616 := by
  show IntKind.u64.wrap _ = _
  rw [Qc0]; rfl
 rw [show (8388607 : Int) = ((8388607 : Nat) : Int) from rfl, Q0p _ _ hn (by decide), e, show (8388607 : Nat) = 2 ^ 23 - 1 from rfl, Nat.and_two_pow_sub_one_eq_mod]
 apply propext; omega
theorem Qop (n : Nat) (hn : n < 18446744073709551616) : (Gf .u64 (n : Int) 4503599627370495 ≠ 0) = (Jq .u64 (n : Int) 12 ≠ 0) := by
 have e : Jq .u64 (n : Int) 12 = ((n : Int) * 4096) % 18446744073709551616 := by
  show IntKind.u64.wrap _ = _
  rw [Qc0]; rfl
 rw [show (4503599627370495 : Int) = ((4503599627370495 : Nat) : Int) from rfl, Q0p _ _ hn (by decide), e, show (4503599627370495 : Nat) = 2 ^ 52 - 1 from rfl, Nat.and_two_pow_sub_one_eq_mod]
 apply propext; omega
theorem Q9d (N : Nat) (v : Q0) (h : okU v.N') : X8 N v = some (nnS v) := by
 rw [← Qnk 0 v]
 obtain ⟨h0, h1⟩ := h
 obtain ⟨n, hn⟩ := Int.eq_ofNat_of_zero_le h0
 rw [hn] at h1
 have h1 : n < 18446744073709551616 := by omega
 have e1 := Qpf n 8 23 h1 (by decide) (by decide) (by decide)
 have e2 := Qpf n 11 52 h1 (by decide) (by decide) (by decide)
 rw [show ((2 ^ 8 - 1 : Nat) : Int) = 255 from rfl, show (((2 ^ 8 - 1) * 2 ^ 23 : Nat) : Int) = 2139095040 from rfl, show ((23 : Nat) : Int) = 23 from rfl] at e1
 rw [show ((2 ^ 11 - 1 : Nat) : Int) = 2047 from rfl, show (((2 ^ 11 - 1) * 2 ^ 52 : Nat) : Int) = 9218868437227405312 from rfl, show ((52 : Nat) : Int) = 52 from rfl] at e2
 have l1 : Q5 .neq (Gf .u64 (n : Int) 8388607) 0 = Q5 .neq (Jq .u64 (n : Int) 41) 0 := by
  rw [Bool.eq_iff_iff, Va, Va, Qp2 n h1]
 have l2 : Q5 .neq (Gf .u64 (n : Int) 4503599627370495) 0 = Q5 .neq (Jq .u64 (n : Int) 12) 0 := by
  rw [Bool.eq_iff_iff, Va, Va, Qop n h1]
 unfold X8 Z4
 simp only [hn, l1, l2, Q7, Wx, e1, e2]
 by_cases k1 : v.Kind = 11
 ·have k2 : ¬ v.Kind = 12 := by omega
  simp only [if_pos k1, if_neg k2]
  split
  ·split
   ·rename_i h; rw [h]
   ·rename_i h
    cases hc : Q5 .neq (Jq .u64 (n : Int) 41) 0 with
    | true => exact absurd hc h
    | false => rfl
  ·rfl
 ·simp only [if_neg k1]
theorem Q77 {R : Q0 → Q0 → Option Bool} {N : Nat} {a b : Q0} (hlen : a.Items.length = b.Items.length) (hb : a.Items.length < 4611686018427387904)
  (hR : ∀ y ∈ a.Items, ∀ z ∈ b.Items, R y z = some (Gw y z)) : ∀ (n i : Nat), i ≤ a.Items.length → a.Items.length - i < n →
  Y1 R N a b n (i : Int) = some (Gb (a.Items.drop i) (b.Items.drop i)) ∧ Y0 R N a b n (i : Int) = some (Gb (a.Items.drop i) (b.Items.drop i))
 | 0, i, _, h => by omega
 | n + 1, i, h1, h2 => by
  simp only [Y1, Y0, Q7, Wg, Z1]
  by_cases hi : i < a.Items.length
  ·rw [if_pos (by omega), if_pos (by omega), X5, X5, List.getElem?_eq_getElem hi, List.getElem?_eq_getElem (show i < b.Items.length by omega)]
   simp only [Option.bind_some, hR _ (List.getElem_mem hi) _ (List.getElem_mem (show i < b.Items.length by omega))]
   rw [Z5 _ (by omega)]
   obtain ⟨ih1, ih2⟩ := Q77 (N := N) hlen hb hR n (i + 1) (by omega) (by omega)
   rw [List.drop_eq_getElem_cons hi, List.drop_eq_getElem_cons (show i < b.Items.length by omega), Gb]
   cases Gw a.Items[i] b.Items[i] with
   | true =>
    simp only [Bool.not_true, Bool.false_eq_true, if_false, Bool.true_and]
    exact ⟨by exact_mod_cast ih1, by exact_mod_cast ih2⟩
   | false => simp
  ·rw [if_neg (by omega), if_neg (by omega), List.drop_of_length_le (by omega)]
   simp [Gb]
theorem Q6u : ∀ (N : Nat) (a b : Q0), Fine a → Fine b → a.sz < N → a.sz < 1000000000 → Y6 N a b = some (Gw a b)
 | 0, a, b, _, _, h, _ => by have := a.sz_eq; omega
 | N + 1, a, b, fa, fb, h, h2 => by
  have hs := a.sz_eq
  have hl := Q0.szs_len a.Items
  rw [Q7h]
  simp only [Y6, Wu, Q7, Va, Jt, Z1, Q9d N a fa.num, Q9d N b fb.num, Option.bind_some]
  by_cases e1 : a.Kind = b.Kind
  ·by_cases e3 : a.Text = b.Text
   ·by_cases e4 : a.Items.length = b.Items.length
    ·simp only [if_neg (show ¬ (a.Kind ≠ b.Kind) by simp [e1]), if_neg (show ¬ (a.Text ≠ b.Text) by simp [e3]), if_neg (show ¬ ((a.Items.length : Int) ≠ b.Items.length) by simp [e4])]
     obtain ⟨i1, i2⟩ := Q77 (N := N) (R := Y6 N) e4 (by omega) (fun y hy z hz => Q6u N y z (fa.items y hy) (fb.items z hz) (by have := Q0.szs_mem _ y hy; omega) (by have := Q0.szs_mem _ y hy; omega)) N 0 (by omega) (by omega)
     rw [show ((0 : Nat) : Int) = 0 from rfl] at i1 i2
     rw [i1, i2, List.drop_zero, List.drop_zero]
     simp only [e1, e3, e4, decide_true, Bool.true_and]
     by_cases e2 : a.N' = b.N'
     ·simp [e2]
     ·simp only [e2, ne_eq, not_false_eq_true, if_true, decide_false, Bool.false_or]
      cases nnS a <;> cases nnS b <;> simp
    ·simp only [if_neg (show ¬ (a.Kind ≠ b.Kind) by simp [e1]), if_neg (show ¬ (a.Text ≠ b.Text) by simp [e3]), if_pos (show ((a.Items.length : Int) ≠ b.Items.length) by omega)]
     simp [e4]
     repeat' split
     all_goals rfl
   ·simp only [if_neg (show ¬ (a.Kind ≠ b.Kind) by simp [e1]), if_pos (show (a.Text ≠ b.Text) from e3)]
    simp [e3]
    repeat' split
    all_goals rfl
  ·rw [if_pos (by simpa using e1)]
   simp [e1]
end
end Go.Av
namespace Go.Av
noncomputable section
open Go.Proofs
set_option maxRecDepth 100000
theorem Q8t {R : Q0 → Q0 → Option Bool} {N : Nat} {a b : Q0} (hlen : a.Items.length = b.Items.length) (hb : a.Items.length < 4611686018427387904)
  (hR : ∀ y ∈ a.Items, ∀ z, R y z = some (decide (y = z))) : ∀ (n i : Nat), i ≤ a.Items.length → a.Items.length - i < n →
  Ye R N a b n (i : Int) = some (decide (a.Items.drop i = b.Items.drop i))
 | 0, i, _, h => by omega
 | n + 1, i, h1, h2 => by
  simp only [Ye, Q7, Wg, Z1]
  by_cases hi : i < a.Items.length
  ·rw [if_pos (by omega), X5, X5, List.getElem?_eq_getElem hi, List.getElem?_eq_getElem (show i < b.Items.length by omega)]
   simp only [Option.bind_some, hR _ (List.getElem_mem hi)]
   rw [Z5 _ (by omega)]
   have ih := Q8t (N := N) hlen hb hR n (i + 1) (by omega) (by omega)
   rw [List.drop_eq_getElem_cons hi, List.drop_eq_getElem_cons (show i < b.Items.length by omega)]
   by_cases he : a.Items[i] = b.Items[i]
   ·rw [← he]; simp only [decide_true, Bool.not_true, Bool.false_eq_true, if_false, List.cons.injEq, true_and]
    exact_mod_cast ih
   ·have hne : ¬ (a.Items[i] :: List.drop (i + 1) a.Items = b.Items[i] :: List.drop (i + 1) b.Items) := fun e => he (List.cons.inj e).1
    simp only [he, decide_false, Bool.not_false, if_true]
    rw [decide_eq_false hne]
  ·rw [if_neg (by omega), List.drop_of_length_le (by omega), List.drop_of_length_le (by omega)]
   simp
theorem Q9f : ∀ (N : Nat) (a b : Q0), a.sz < N → a.sz < 1000000000 → Yj N a b = some (decide (a = b))
 | 0, a, b, h, _ => by have := a.sz_eq; omega
 | N + 1, a, b, h, h2 => by
  have hs := a.sz_eq
  have hl := Q0.szs_len a.Items
  simp only [Yj, Wz, Q7, Va, Jt, Z1]
  by_cases e1 : a.Kind = b.Kind
  ·by_cases e2 : a.N' = b.N'
   ·by_cases e3 : a.Text = b.Text
    ·by_cases e4 : a.Items.length = b.Items.length
     ·rw [if_neg (by simp [e1]), if_neg (by simp [e2]), if_neg (by simp [e3]), if_neg (by simp [e4])]
      have := Q8t (N := N) (R := Yj N) e4 (by omega) (fun y hy z => Q9f N y z (by have := Q0.szs_mem _ y hy; omega) (by have := Q0.szs_mem _ y hy; omega)) N 0 (by omega) (by omega)
      rw [show (0 : Int) = ((0 : Nat) : Int) from rfl, this]
      cases a; cases b; simp_all
     ·rw [if_neg (by simp [e1]), if_neg (by simp [e2]), if_neg (by simp [e3]), if_pos (by omega)]
      have : a ≠ b := fun e => e4 (by rw [e])
      simp [this]
    ·rw [if_neg (by simp [e1]), if_neg (by simp [e2]), if_pos (by simpa using e3)]
     have : a ≠ b := fun e => e3 (by rw [e])
     simp [this]
   ·rw [if_neg (by simp [e1]), if_pos (by simpa using e2)]
    have : a ≠ b := fun e => e2 (by rw [e])
    simp [this]
  ·rw [if_pos (by simpa using e1)]
   have : a ≠ b := fun e => e1 (by rw [e])
   simp [this]
open Classical in
theorem Qeo {N : Nat} {v : Q0} (hf : Fine v) (hb : v.sz < 1000000000) (hN : v.sz < N) {k0 : Int → Option Bool} {i : Nat} (hi : i < v.Items.length) (i2 : i % 2 = 0) : ∀ (n k : Nat), i - k < n → k % 2 = 0 → k ≤ i →
  Y2 N k0 v.Items (i : Int) n (k : Int) = if ∃ j, k ≤ j ∧ j < i ∧ j % 2 = 0 ∧ AL v i j then some true else k0 ((i + 2 : Nat) : Int)
 | 0, k, h, _, _ => by omega
 | n + 1, k, h, hk, hki => by
  have hs := v.sz_eq
  have hl := Q0.szs_len v.Items
  simp only [Y2, Q7, Wg, X5]
  by_cases hlt : k < i
  ·rw [if_pos (by omega), List.getElem?_eq_getElem hi, List.getElem?_eq_getElem (show k < v.Items.length by omega)]
   simp only [Option.bind_some]
   have hsz := Q0.szs_mem _ _ (List.getElem_mem hi)
   rw [Q6u N _ _ (hf.items _ (List.getElem_mem hi)) (hf.items _ (List.getElem_mem (show k < v.Items.length by omega))) (by omega) (by omega)]
   simp only [Option.bind_some]
   cases hal : Gw v.Items[i] v.Items[k] with
   | true =>
    rw [if_pos rfl, if_pos ⟨k, Nat.le_refl _, hlt, hk, _, _, List.getElem?_eq_getElem hi, List.getElem?_eq_getElem (by omega), hal⟩]
   | false =>
    rw [if_neg (by simp), Z5 _ (by omega)]
    have := Qeo (k0 := k0) hf hb hN hi i2 n (k + 2) (by omega) (by omega) (by omega)
    rw [show ((k : Int) + 2) = ((k + 2 : Nat) : Int) by push_cast; rfl, this]
    by_cases hx : ∃ j, k + 2 ≤ j ∧ j < i ∧ j % 2 = 0 ∧ AL v i j
    ·rw [if_pos hx]
     obtain ⟨j, j1, j2, j3, j4⟩ := hx
     rw [if_pos ⟨j, by omega, j2, j3, j4⟩]
    ·rw [if_neg hx, if_neg]
     rintro ⟨j, j1, j2, j3, j4⟩
     by_cases hjk : j = k
     ·subst hjk
      obtain ⟨x, y, x1, y1, z1⟩ := j4
      rw [List.getElem?_eq_getElem hi] at x1
      rw [List.getElem?_eq_getElem (by omega)] at y1
      cases x1; cases y1
      rw [hal] at z1; cases z1
     ·exact hx ⟨j, by omega, j2, j3, j4⟩
  ·rw [if_neg (by omega), Z5 _ (by omega), if_neg (by rintro ⟨j, j1, j2, _⟩; omega)]
   push_cast; rfl
open Classical in
theorem Qev {N : Nat} {v : Q0} (hf : Fine v) (hb : v.sz < 1000000000) (hN : v.sz < N) : ∀ (n i : Nat), v.Items.length - i < n → i % 2 = 0 → i ≤ v.Items.length + 2 →
  Z8 N v.Items n (i : Int) = some (if ∃ i' j, i ≤ i' ∧ i' % 2 = 0 ∧ i' < v.Items.length ∧ j < i' ∧ j % 2 = 0 ∧ AL v i' j then true else false)
 | 0, i, h, _, _ => by omega
 | n + 1, i, h, hi, hle => by
  have hs := v.sz_eq
  have hl := Q0.szs_len v.Items
  simp only [Z8, Q7, Wg, Z1]
  by_cases hlt : i < v.Items.length
  ·rw [if_pos (by omega)]
   have h1 := Qeo (N := N) (k0 := Z8 N v.Items n) hf hb hN hlt hi N 0 (by omega) (by omega) (by omega)
   rw [show ((0 : Nat) : Int) = 0 from rfl] at h1
   rw [h1]
   by_cases hx : ∃ j, 0 ≤ j ∧ j < i ∧ j % 2 = 0 ∧ AL v i j
   ·rw [if_pos hx]
    obtain ⟨j, _, j2, j3, j4⟩ := hx
    rw [if_pos ⟨i, j, Nat.le_refl _, hi, hlt, j2, j3, j4⟩]
   ·rw [if_neg hx, Qev hf hb hN n (i + 2) (by omega) (by omega) (by omega)]
    by_cases hy : ∃ i' j, i + 2 ≤ i' ∧ i' % 2 = 0 ∧ i' < v.Items.length ∧ j < i' ∧ j % 2 = 0 ∧ AL v i' j
    ·rw [if_pos hy]
     obtain ⟨i', j, a1, a2, a3⟩ := hy
     rw [if_pos ⟨i', j, by omega, a2, a3⟩]
    ·rw [if_neg hy, if_neg]
     rintro ⟨i', j, a1, a2, a3, a4, a5, a6⟩
     by_cases he : i' = i
     ·subst he; exact hx ⟨j, by omega, a4, a5, a6⟩
     ·exact hy ⟨i', j, by omega, a2, a3, a4, a5, a6⟩
  ·rw [if_neg (by omega), if_neg]
   rintro ⟨i', j, a1, a2, a3, _⟩; omega
theorem Ql8 (v : Q0) : Jw v = 0 ∨ Jw v = 16 := by
 unfold Jw
 split
 ·exact .inl rfl
 ·split
  ·exact .inr rfl
  ·exact .inl rfl
open Classical in
theorem Qkv (N : Nat) (v : Q0) (hf : Fine v) (hk : v.Kind = 23) (hb : v.sz < 1000000000) (hN : v.sz + 5 < N) : Xu N v.Items = some (decide (Jw v = 16)) := by
 have hs := v.sz_eq
 have hl := Q0.szs_len v.Items
 have h0 := Qev hf hb (show v.sz < N by omega) N 0 (by omega) (by omega) (by omega)
 rw [show ((0 : Nat) : Int) = 0 from rfl] at h0
 unfold Xu
 rw [h0]
 have hkey : Jw v = 16 ↔ ∃ i j, 2 ≤ i ∧ i % 2 = 0 ∧ i < v.Items.length ∧ j < i ∧ j % 2 = 0 ∧ AL v i j := by
  unfold Jw
  rw [if_neg (fun h => h hk)]
  split
  ·rename_i hx; exact ⟨fun _ => hx, fun _ => rfl⟩
  ·rename_i hx; exact ⟨fun h => (by cases h), fun h => absurd h hx⟩
 by_cases hx : ∃ i' j, 0 ≤ i' ∧ i' % 2 = 0 ∧ i' < v.Items.length ∧ j < i' ∧ j % 2 = 0 ∧ AL v i' j
 ·rw [if_pos hx]
  obtain ⟨i, j, a1, a2, a3, a4, a5, a6⟩ := hx
  rw [decide_eq_true (hkey.2 ⟨i, j, by omega, a2, a3, a4, a5, a6⟩)]
 ·rw [if_neg hx, decide_eq_false]
  rw [hkey]
  rintro ⟨i, j, a1, a2, a3, a4, a5, a6⟩
  exact hx ⟨i, j, by omega, a2, a3, a4, a5, a6⟩
theorem Qb7 (N : Nat) (v : Q0) : Xe N v = some (J8 v) := by
 rw [← Qfu v]
 unfold Xe Q52
 simp only [Q7, Wx, Va, Jt]
 by_cases h1 : v.Text ≠ []
 ·rw [if_pos h1, if_pos h1]
 rw [if_neg h1, if_neg h1]
 by_cases h2 : v.Kind = 24
 ·have e : Q5 .eql v.Kind 24 = true := by rw [Wx]; exact h2
  simp only [e, if_pos h2, Bool.not_true, Bool.false_eq_true, if_false]
 ·have e : Q5 .eql v.Kind 24 = false := Bool.eq_false_iff.2 (by rw [ne_eq, Wx]; exact h2)
  simp only [e, if_neg h2, Bool.not_false, if_true]
  split
  ·rfl
  ·split
   ·rfl
   ·by_cases h3 : v.Kind = 23
    ·rw [if_neg (by simp [h3]), if_pos h3]
    ·rw [if_pos h3, if_neg h3]
theorem Q5i {R : Q0 → Int → Option Int} {N : Nat} {v : Q0} {m : Int} (hf : Fine v) (hb : v.sz < 1000000000) (hN : v.sz + 5 < N) (hm : 1 ≤ m ∧ m ≤ 32) (hR : ∀ y ∈ v.Items, R y (m - 1) = some (Wo y (m - 1))) : ∀ (n i : Nat), i ≤ v.Items.length → v.Items.length - i < n →
  Zo R N v m n (i : Int) = some (Jl (v.Items.drop i) v.Kind v.N' (m - 1) (Jw v))
 | 0, i, _, h => by omega
 | n + 1, i, hi, hn => by
  have hs := v.sz_eq
  have hl := Q0.szs_len v.Items
  simp only [Zo, Q7, Wg, Wx, Va, Z1, X5, Z5 (m - 1) (show _ by omega)]
  by_cases h : i < v.Items.length
  ·rw [if_pos (by omega), List.getElem?_eq_getElem h, List.drop_eq_getElem_cons h, Jl]
   simp only [Option.bind_some, hR _ (List.getElem_mem h)]
   rw [Z5 _ (by omega)]
   have ih := Q5i (N := N) hf hb hN hm hR n (i + 1) (by omega) (by omega)
   rw [show ((i : Int) + 1) = ((i + 1 : Nat) : Int) by push_cast; rfl, ih]
   by_cases h24 : v.Kind = 24
   ·rw [if_pos h24]
    by_cases hw : IntKind.u64.wrap v.Items[i].Kind ≠ v.N'
    ·rw [if_pos hw, if_pos ⟨h24, hw⟩]
    ·rw [if_neg hw, if_neg (show ¬ (v.Kind = 24 ∧ IntKind.u64.wrap v.Items[i].Kind ≠ v.N') from fun hh => hw hh.2)]
     by_cases hc : Wo v.Items[i] (m - 1) ≠ 0
     ·rw [if_pos hc, if_pos hc]
     ·rw [if_neg hc, if_neg hc]
   ·rw [if_neg h24, if_neg (show ¬ (v.Kind = 24 ∧ IntKind.u64.wrap v.Items[i].Kind ≠ v.N') from fun hh => h24 hh.1)]
    by_cases hc : Wo v.Items[i] (m - 1) ≠ 0
    ·rw [if_pos hc, if_pos hc]
    ·rw [if_neg hc, if_neg hc]
  ·rw [if_neg (by omega), List.drop_of_length_le (by omega), Jl]
   by_cases h23 : v.Kind = 23
   ·rw [if_pos h23, Qkv N v hf h23 hb hN]
    simp only [Option.bind_some]
    rcases Ql8 v with h | h
    ·rw [h]; rfl
    ·rw [h]; rfl
   ·rw [if_neg h23]
    unfold Jw
    rw [if_pos h23]
theorem Q5m : ∀ (N : Nat) (v : Q0) (m : Int), Fine v → v.sz + 300050 < N → v.sz < 1000000000 → 0 ≤ m → m ≤ 32 → Y8 N v m = some (Wo v m)
 | 0, v, m, _, h, _, _, _ => by omega
 | N + 1, v, m, hv, h, h2, m0, m1 => by
  have hs := v.sz_eq
  have hl := Q0.szs_len v.Items
  rw [Q1q]
  have ht := hv.text
  simp only [Y8, Wv, Q7, Wg, Q2w, Q8e, Wx, Z1, Q2x N v hv.num (show v.Text.length < N by omega) (by omega), Qb7, Option.bind_some]
  split
  ·rfl
  rename_i h1
  by_cases h25 : v.Kind > 25
  ·rw [if_pos h25, if_pos (show 25 < v.Kind from h25)]
  rw [if_neg h25, if_neg (show ¬ 25 < v.Kind from h25)]
  split
  ·rfl
  by_cases hm0 : m = 0
  ·rw [if_pos hm0, if_pos hm0]
  rw [if_neg hm0, if_neg hm0]
  cases J8 v with
  | false => rfl
  | true =>
   simp only [Bool.not_true, Bool.false_eq_true, if_false, Bool.true_eq_false]
   by_cases hlen : 1000 < v.Items.length
   ·rw [if_pos (by omega), if_pos hlen]
   rw [if_neg (by omega), if_neg hlen]
   have := Q5i (R := Y8 N) (N := N) (v := v) (m := m) hv h2 (by omega) ⟨by omega, m1⟩ (fun y hy => Q5m N y (m - 1) (hv.items y hy) (by have := Q0.szs_mem _ y hy; omega) (by have := Q0.szs_mem _ y hy; omega) (by omega) (by omega)) N 0 (by omega) (by omega)
   exact this
theorem Qcd (N : Nat) (v : Q0) (m : Int) (hv : Fine v) (h : v.sz + 300050 < N) (h2 : v.sz < 1000000000) : Xp N v m = some (Q1m v m) := by
 simp only [Xp, Q7, Wg, Q2w, Q1m]
 by_cases h1 : m < 0
 ·rw [if_pos h1, if_pos (show Q3n m = false from decide_eq_false (by omega))]
 by_cases h3 : m > 32
 ·rw [if_neg h1, if_pos h3, if_pos (show Q3n m = false from decide_eq_false (by omega))]
 rw [if_neg h1, if_neg h3, if_neg (show ¬ (Q3n m = false) by rw [show Q3n m = true from decide_eq_true (by omega)]; simp), Q5m N v m hv h h2 (by omega) (by omega)]; rfl
theorem Qiw {R : Q0 → Option Q0} {N : Nat} {v : Q0} (hb : v.sz < 1000000000) (hR : ∀ y ∈ v.Items, R y = some y) : ∀ (n i : Nat), i ≤ v.Items.length → v.Items.length - i < n → Yn R N v n (i : Int) (v.Items.take i) = some v
 | 0, i, _, h => by omega
 | n + 1, i, hi, hn => by
  have hs := v.sz_eq
  have hl := Q0.szs_len v.Items
  simp only [Yn, Q7, Wg, Z1, X5]
  by_cases h : i < v.Items.length
  ·rw [if_pos (by omega), List.getElem?_eq_getElem h]
   simp only [Option.bind_some, hR _ (List.getElem_mem h)]
   rw [if_pos (by rw [Nat.ble_eq, List.length_take]; omega), Z5 _ (by omega), ← List.take_succ_eq_append_getElem h]
   exact_mod_cast Qiw (N := N) hb hR n (i + 1) (by omega) (by omega)
  ·rw [if_neg (by omega), List.take_of_length_le (by omega)]
   cases v; rfl
theorem Qif : ∀ (N : Nat) (v : Q0), v.sz < N → v.sz < 1000000000 → Xm N v = some v
 | 0, v, h, _ => by omega
 | N + 1, v, h, h2 => by
  have hs := v.sz_eq
  have hl := Q0.szs_len v.Items
  have := Qiw (R := Xm N) (N := N) (v := v) h2 (fun y hy => Qif N y (by have := Q0.szs_mem _ y hy; omega) (by have := Q0.szs_mem _ y hy; omega)) N 0 (by omega) (by omega)
  exact this
end
end Go.Av
namespace Go.Av
noncomputable section
open Go.Proofs
set_option maxRecDepth 100000
noncomputable def Qje (d : Int → List UInt8 → Rd) (code : Int) (s : List UInt8) : Rd := if (ofS code).Kind = 25 then Qlm (W8 d) s else if (ofS code).Sized = false then (⟨(ofS code).Kind, 0, [], []⟩, 0, 0) else Q3h d (ofS code) s
theorem Qjh {code : Int} (h1 : ofB code = true) (h2 : (ofS code).Items = false) (m : Nat) (s : List UInt8) : Jm m code s = Qbw code s := by
 cases m <;> simp only [Jm, h1, h2, if_true, if_false, Bool.true_eq_false]
theorem Q8x {code : Int} (h1 : ofB code = true) (h2 : (ofS code).Items = true) (m : Nat) (s : List UInt8) : Jm (m + 1) code s = Qje (Jm m) code s := by
 simp only [Jm, h1, h2, if_false, Bool.true_eq_false]; rfl
theorem Q4s : ∀ (l : List Q0) (k n m : Int), (∀ x ∈ l, Wo x m = 0 ∧ (k = 24 → IntKind.u64.wrap x.Kind = n)) → Jl l k n m 0 = 0
 | [], _, _, _, _ => by rw [Jl]
 | x :: l, k, n, m, h => by
  obtain ⟨h1, h2⟩ := h x (by simp)
  rw [Jl, if_neg (fun hh => hh.2 (h2 hh.1)), if_neg (by simp [h1])]
  exact Q4s l k n m (fun y hy => h y (by simp [hy]))
theorem Qc6 {k n : Int} {l : List Q0} (h24 : k = 24 → 1 ≤ n ∧ n ≤ 24) (h0 : k ≠ 24 → n = 0) (h25 : k = 25 → l.length = 2) (h23 : k = 23 → l.length % 2 = 0) : J8 ⟨k, n, [], l⟩ = true := by
 unfold J8 Q52
 simp only [Q7, Jt, Wx, Va, Q8d, Z1]
 rw [if_neg (by simp)]
 by_cases e : k = 24
 ·rw [if_pos e, if_pos (h24 e).1]
  have := (h24 e).2
  simp [Q8e]; exact this
 ·rw [if_neg e, if_neg (by simp [h0 e])]
  by_cases e5 : k = 25
  ·rw [if_pos e5]
   simp [Wx, h25 e5]
  ·rw [if_neg e5]
   by_cases e3 : k = 23
   ·rw [if_pos e3]
    have := h23 e3
    simp [Wx, Int.tmod_eq_emod_of_nonneg]; omega
   ·rw [if_neg e3]; rfl
theorem Qnt {k n : Int} {l : List Q0} (h : k ≠ 23) : Jw ⟨k, n, [], l⟩ = 0 := by
 unfold Jw
 rw [if_pos h]
theorem Qkw {k n : Int} {l : List Q0} {m : Nat} (hk : 22 ≤ k ∧ k ≤ 25) (hl : l.length ≤ 1000) (hit : ∀ x ∈ l, Fine x ∧ Wo x m = 0 ∧ (k = 24 → IntKind.u64.wrap x.Kind = n)) (hkeys : Jw ⟨k, n, [], l⟩ = 0)
  (h24 : k = 24 → 1 ≤ n ∧ n ≤ 24) (h0 : k ≠ 24 → n = 0) (h25 : k = 25 → l.length = 2) (h23 : k = 23 → l.length % 2 = 0) : Fine ⟨k, n, [], l⟩ ∧ Wo ⟨k, n, [], l⟩ ((m + 1 : Nat) : Int) = 0 := by
 refine ⟨.mk _ ?_ (by simp) (fun x hx => (hit x hx).1), ?_⟩
 ·by_cases h : k = 24
  ·have := h24 h; exact ⟨by simp only []; omega, by simp only []; omega⟩
  ·have := h0 h; exact ⟨by simp only []; omega, by simp only []; omega⟩
 ·rw [Q1q]
  simp only [hkeys, Qc6 h24 h0 h25 h23]
  rw [if_neg (by omega), if_neg (by omega), if_neg (by omega), if_neg (by omega), if_neg (by simp), if_neg (by omega), show (((m + 1 : Nat) : Int) - 1) = (m : Int) by omega]
  exact Q4s _ _ _ _ (fun x hx => (hit x hx).2)
end
end Go.Av
namespace Go.Av
noncomputable section
open Go.Proofs
set_option maxRecDepth 100000
end
end Go.Av
namespace Go.Av
noncomputable section
open Go.Proofs
set_option maxRecDepth 100000
theorem Qk9 : Xt 800000000 = some true := by decide +kernel
end
end Go.Av
namespace Go.Av
noncomputable section
open Go.Proofs
set_option maxRecDepth 100000
def Q1n (code : Int) (v : Q0) (b : List UInt8) : Bool :=
 if (ofS code).Items = false then Q0i code v else if (ofS code).Width = 0 then decide (v.Items.length = 0)
 else decide ((ofS code).Width = 4 ∨ (v.Items.length < 256 ∧ b.length + 1 < 256))
def Vu (code : Int) (v : Q0) (b : List UInt8) : List UInt8 :=
 if (ofS code).Items = false then (Qmc code v).1 else if (ofS code).Sized = false then []
 else Jg (b.length + (ofS code).Width.toNat) (ofS code).Width.toNat ++ (Jg v.Items.length (ofS code).Width.toNat ++ b)
def Qh2 (c : Int) (l : List (Q0 × List UInt8)) : Bool := l.all fun p => Q1n c p.1 p.2
def Q1e (k : Int) (l : List (Q0 × List UInt8)) : Int := ((Vq k).find? (fun c => Qh2 c l)).getD 0
def Q84 (c : Int) : UInt8 := UInt8.ofNat c.toNat
def Qq6 (n : Int) (l : List (Q0 × List UInt8)) : List UInt8 := Q84 (Q1e n l) :: (l.map fun p => Vu (Q1e n l) p.1 p.2).flatten
def Qpr (k n : Int) (is : List Q0) (l : List (List UInt8 × List UInt8)) : List UInt8 := if k = 24 then Qq6 n (is.zip (l.map (·.1))) else if k = 25 then [] else (l.map (·.2)).flatten
def Qqe (v : Q0) (b : List UInt8) (l : List (List UInt8 × List UInt8)) : List UInt8 := if v.Kind = 25 then 0 :: (l.map (·.2)).flatten else Q84 (Q1e v.Kind [(v, b)]) :: Vu (Q1e v.Kind [(v, b)]) v b
mutual
def Q0.enc : Q0 → List UInt8 × List UInt8
 | .mk k n t is => (Qpr k n is (Q0.encs is), Qqe ⟨k, n, t, is⟩ (Qpr k n is (Q0.encs is)) (Q0.encs is))
def Q0.encs : List Q0 → List (List UInt8 × List UInt8)
 | [] => []
 | v :: l => v.enc :: Q0.encs l
end
def Q0.inn (v : Q0) : List UInt8 := v.enc.1
def Q0.byt (v : Q0) : List UInt8 := v.enc.2
theorem Qe1 : ∀ l, Q0.encs l = l.map Q0.enc
 | [] => rfl
 | v :: l => by rw [Q0.encs, Qe1 l]; rfl
def Q0.prs (v : Q0) : List (Q0 × List UInt8) := v.Items.map fun x => (x, x.inn)
def Q0.elm (v : Q0) : Int := Q1e v.N' v.prs
def Q0.cod (v : Q0) : Int := Q1e v.Kind [(v, v.inn)]
theorem Qms (l : List Q0) : l.zip ((l.map Q0.enc).map (·.1)) = l.map fun x => (x, x.inn) := by
 induction l with
 | nil => rfl
 | cons x l ih => simp only [List.map_cons, List.zip_cons_cons, ih]; rfl
theorem Qcs (v : Q0) : v.inn = if v.Kind = 24 then Q84 v.elm :: (v.Items.map fun x => Vu v.elm x x.inn).flatten else if v.Kind = 25 then [] else (v.Items.map Q0.byt).flatten := by
 obtain ⟨k, n, t, is⟩ := v
 unfold Q0.inn
 rw [Q0.enc, Qe1]
 simp only [Qpr, Qms, Q0.elm, Q0.prs, Qq6]
 simp only [List.map_map]
 rfl
theorem Qfr (v : Q0) : v.byt = if v.Kind = 25 then 0 :: (v.Items.map Q0.byt).flatten else Q84 v.cod :: Vu v.cod v v.inn := by
 obtain ⟨k, n, t, is⟩ := v
 unfold Q0.byt Q0.cod Q0.inn
 rw [Q0.enc, Qe1]
 simp only [Qqe, List.map_map]
 rfl
theorem Qff {k : Int} {l : List (Q0 × List UInt8)} (h : ∃ c ∈ Vq k, Qh2 c l = true) : Q1e k l ∈ Vq k ∧ Qh2 (Q1e k l) l = true := by
 unfold Q1e
 cases hf : (Vq k).find? (fun c => Qh2 c l) with
 | some c => exact ⟨List.mem_of_find?_eq_some hf, by simpa using List.find?_some hf⟩
 | none =>
  obtain ⟨c, h1, h2⟩ := h
  have := List.find?_eq_none.1 hf c h1
  exact absurd h2 this
def Jy (k : Int) : Int := (Vq k).getLastD 0
def Qij (k : Nat) : Bool := !(decide (1 ≤ k)) || ((Vq k).contains (Jy k) && ((k == 25) || (if (ofS (Jy k)).Items then decide ((ofS (Jy k)).Width = 4) && (ofS (Jy k)).Sized else if (ofS (Jy k)).Sized then decide ((ofS (Jy k)).Width = 4) else decide ((ofS (Jy k)).Code ≠ 65) && (decide ((ofS (Jy k)).Width = 0 ∧ (Vl k).1 = 0 ∧ (Vl k).2 = false) || (decide ((ofS (Jy k)).Width = 1) && decide (8 = (Vl k).1 ∨ (Vl k).1 = 1 ∧ (Vl k).2 = false)) || decide (1 < (ofS (Jy k)).Width)))))
theorem Qhd : ((List.range 26).all Qij) = true := by decide +kernel
theorem Q6c {k : Int} (h : 1 ≤ k ∧ k ≤ 25) : Qij k.toNat = true := List.all_eq_true.1 Qhd k.toNat (by simp; omega)
theorem Qhu {v : Q0} (hn : okU v.N') (h : Wb v = 0) : Jy v.Kind ∈ Vq v.Kind ∧ Q0i (Jy v.Kind) v = true := by
 obtain ⟨c1, c2, c3, c4, c5, c6, c7⟩ := J2 h
 have hb := Q6c (k := v.Kind) (by omega)
 unfold Qij at hb
 rw [show ((v.Kind.toNat : Nat) : Int) = v.Kind by omega] at hb
 simp only [Bool.or_eq_true, Bool.not_eq_true', decide_eq_false_iff_not, Bool.and_eq_true, List.contains_iff_mem, beq_iff_eq] at hb
 rcases hb with hb | ⟨hm, hb⟩
 ·omega
 ·refine ⟨hm, ?_⟩
  obtain ⟨d1, d2, d3⟩ := Q4n _ _ hm
  have hw := Qbq _ d1
  have hi := U5 hw (by omega)
  rcases hb with hb | hb
  ·omega
  rw [hi] at hb
  simp only [Bool.false_eq_true, if_false] at hb
  have hs : Q2h (ofS (Jy v.Kind)) v = true := by
   unfold Q2h
   by_cases hz : (ofS (Jy v.Kind)).Sized = true
   ·rw [if_pos hz] at hb
    have h4 : (ofS (Jy v.Kind)).Width = 4 := by simpa using hb
    obtain ⟨_, _, _, h65⟩ := hw.sized hi hz
    rw [if_neg h65, if_pos hz]
    simp [h4]
   ·rw [if_neg hz] at hb
    simp only [Bool.and_eq_true, Bool.or_eq_true, decide_eq_true_eq] at hb
    obtain ⟨h65, hb⟩ := hb
    rw [if_neg h65, if_neg hz]
    have hnum := c3
    unfold Q2r at hnum
    simp only [Bool.and_eq_true] at hnum
    have hf := hnum.1
    rcases hb with (⟨w0, b0, b1⟩ | ⟨w1, hb⟩) | w2
    ·rw [if_pos w0]
     rw [b0, b1] at hf
     unfold Uj at hf
     simp at hf ⊢
     have := hn.1
     omega
    ·rw [if_neg (by omega), if_pos w1, d3]
     rcases hb with hb | ⟨b1, b2⟩
     ·rw [← hb] at hf; exact hf
     ·rw [b1, b2] at hf
      rw [b2]
      unfold Uj at hf ⊢
      simp at hf ⊢
      omega
    ·rw [if_neg (by omega), if_neg (by omega)]
  unfold Q0i
  simp [d1, d3, h, hs]
end
end Go.Av
namespace Go.Av
noncomputable section
open Go.Proofs
set_option maxRecDepth 100000
theorem Q6t : ∀ (l : List Q0) (k n m e : Int), Jl l k n m e = 0 → e = 0 ∧ ∀ x ∈ l, Wo x m = 0 ∧ (k = 24 → IntKind.u64.wrap x.Kind = n)
 | [], _, _, _, _, h => ⟨by simpa [Jl] using h, fun x hx => by cases hx⟩
 | x :: l, k, n, m, e, h => by
  rw [Jl] at h
  split at h
  ·cases h
  ·rename_i h1
   split at h
   ·rename_i h2; exact absurd h h2
   ·rename_i h2
    obtain ⟨i1, i2⟩ := Q6t l k n m e h
    refine ⟨i1, fun y hy => ?_⟩
    rcases List.mem_cons.1 hy with rfl | hy
    ·exact ⟨Classical.byContradiction h2, fun hk => Classical.byContradiction fun hn => h1 ⟨hk, hn⟩⟩
    ·exact i2 y hy
theorem G3 {v : Q0} (h : J8 v = true) : v.Text = [] ∧ (v.Kind = 24 → 1 ≤ v.N' ∧ v.N' ≤ 24) ∧ (v.Kind ≠ 24 → v.N' = 0) ∧ (v.Kind = 25 → v.Items.length = 2) ∧ (v.Kind = 23 → v.Items.length % 2 = 0) := by
 unfold J8 Q52 at h
 simp only [Q7, Jt, Wx, Va, Q8d, Z1] at h
 split at h
 ·cases h
 ·rename_i h1
  have h1 : v.Text = [] := by simpa using h1
  refine ⟨h1, ?_⟩
  split at h
  ·rename_i h2
   split at h
   ·rename_i h3
    have h4 : v.N' ≤ 24 := by
     have : Q5 .leq v.N' 24 = true := by simpa using h
     rw [Q8e] at this; exact this
    exact ⟨fun _ => ⟨h3, h4⟩, fun h => absurd h2 h, fun h => by omega, fun h => by omega⟩
   ·cases h
  ·rename_i h2
   split at h
   ·cases h
   ·rename_i h3
    have h3 : v.N' = 0 := by simpa using h3
    refine ⟨fun h => absurd h h2, fun _ => h3, ?_, ?_⟩
    ·intro h5
     rw [if_pos h5] at h
     have : Q5 .eql (v.Items.length : Int) 2 = true := by simpa using h
     rw [Wx] at this; omega
    ·intro h5
     rw [if_neg (by omega), if_pos h5] at h
     have : Q5 .eql ((v.Items.length : Int).tmod 2) 0 = true := by simpa using h
     rw [Wx, Int.tmod_eq_emod_of_nonneg (by omega)] at this; omega
theorem Uv {v : Q0} {m : Int} (h : Wo v m = 0) : (1 ≤ v.Kind ∧ v.Kind ≤ 21 ∧ Wb v = 0) ∨
  (22 ≤ v.Kind ∧ v.Kind ≤ 25 ∧ m ≠ 0 ∧ J8 v = true ∧ v.Items.length ≤ 1000 ∧ Jw v = 0 ∧ ∀ x ∈ v.Items, Wo x (m - 1) = 0 ∧ (v.Kind = 24 → IntKind.u64.wrap x.Kind = v.N')) := by
 rw [Q1q] at h
 split at h
 ·cases h
 ·split at h
  ·cases h
  ·split at h
   ·exact .inl ⟨by omega, by omega, h⟩
   ·split at h
    ·cases h
    ·split at h
     ·cases h
     ·rename_i hs
      split at h
      ·cases h
      ·obtain ⟨h1, h2⟩ := Q6t _ _ _ _ _ h
       exact .inr ⟨by omega, by omega, by assumption, by simpa using hs, by omega, h1, h2⟩
theorem Q8y {v : Q0} {m : Int} (h : Wo v m = 0) : 1 ≤ v.Kind ∧ v.Kind ≤ 25 := by
 rcases Uv h with ⟨h1, h2, _⟩ | ⟨h1, h2, _⟩ <;> omega
theorem Qcb {v : Q0} {m : Int} (h : Wo v m = 0) : IntKind.u64.wrap v.Kind = v.Kind := by
 have := Q8y h
 rw [Qc0]; omega
theorem Qgc {k : Int} (h : 22 ≤ k ∧ k ≤ 24) : Jy k ∈ Vq k ∧ (ofS (Jy k)).Items = true ∧ (ofS (Jy k)).Width = 4 := by
 have hb := Q6c (k := k) (by omega)
 unfold Qij at hb
 rw [show ((k.toNat : Nat) : Int) = k by omega] at hb
 simp only [Bool.or_eq_true, Bool.not_eq_true', decide_eq_false_iff_not, Bool.and_eq_true, List.contains_iff_mem, beq_iff_eq] at hb
 rcases hb with hb | ⟨hm, hb⟩
 ·omega
 ·obtain ⟨d1, d2, d3⟩ := Q4n _ _ hm
  have hi : (ofS (Jy k)).Items = true := by rw [(Qbq _ d1).items, d3]; simp; omega
  rcases hb with hb | hb
  ·omega
  ·rw [if_pos hi] at hb
   simp only [Bool.and_eq_true, decide_eq_true_eq] at hb
   exact ⟨hm, hi, hb.1⟩
theorem Qc1 {v : Q0} {m : Int} (hf : Fine v) (h : Wo v m = 0) (hk : v.Kind ≠ 25) (b : List UInt8) : Jy v.Kind ∈ Vq v.Kind ∧ Q1n (Jy v.Kind) v b = true := by
 rcases Uv h with ⟨h1, h2, h3⟩ | ⟨h1, h2, _⟩
 ·obtain ⟨g1, g2⟩ := Qhu hf.num h3
  obtain ⟨f1, f2, _⟩ := Q1b g2
  refine ⟨g1, ?_⟩
  unfold Q1n
  rw [if_pos (U5 (Qbq _ f1) (by omega))]; exact g2
 ·obtain ⟨g1, g2, g3⟩ := Qgc (k := v.Kind) (by omega)
  refine ⟨g1, ?_⟩
  unfold Q1n
  rw [if_neg (by simp [g2]), if_neg (by omega)]
  simp [g3]
theorem Qm3 {v : Q0} {m : Int} (hf : Fine v) (h : Wo v m = 0) (hk : v.Kind = 24) : v.elm ∈ Vq v.N' ∧ ∀ x ∈ v.Items, Q1n v.elm x x.inn = true := by
 rcases Uv h with ⟨h1, h2, h3⟩ | ⟨h1, h2, h3, h4, h5, h6, h7⟩
 ·omega
 obtain ⟨s1, s2, s3, s4, s5⟩ := G3 h4
 have hn := s2 hk
 have hkx : ∀ x ∈ v.Items, x.Kind = v.N' := fun x hx => by
  have := (h7 x hx).2 hk
  rw [Qcb (h7 x hx).1] at this; exact this
 have hlast : Jy v.N' ∈ Vq v.N' := by
  have hb := Q6c (k := v.N') (by omega)
  unfold Qij at hb
  rw [show ((v.N'.toNat : Nat) : Int) = v.N' by omega] at hb
  simp only [Bool.or_eq_true, Bool.not_eq_true', decide_eq_false_iff_not, Bool.and_eq_true, List.contains_iff_mem] at hb
  rcases hb with hb | ⟨hm, _⟩
  ·omega
  ·exact hm
 obtain ⟨g1, g2⟩ := Qff (k := v.N') (l := v.prs) ⟨Jy v.N', hlast, by
  unfold Qh2 Q0.prs
  rw [List.all_map, List.all_eq_true]
  intro x hx
  have hkk := hkx x hx
  have := (Qc1 (hf.items x hx) (h7 x hx).1 (by omega) x.inn).2
  rw [hkk] at this
  exact this⟩
 refine ⟨g1, fun x hx => ?_⟩
 have := List.all_eq_true.1 g2 (x, x.inn) (by unfold Q0.prs; exact List.mem_map.2 ⟨x, hx, rfl⟩)
 exact this
theorem Qm4 {v : Q0} {m : Int} (hf : Fine v) (h : Wo v m = 0) (hk : v.Kind ≠ 25) : v.cod ∈ Vq v.Kind ∧ Q1n v.cod v v.inn = true := by
 obtain ⟨l1, l2⟩ := Qc1 hf h hk v.inn
 obtain ⟨g1, g2⟩ := Qff (k := v.Kind) (l := [(v, v.inn)]) ⟨Jy v.Kind, l1, by simp [Qh2, l2]⟩
 exact ⟨g1, by unfold Q0.cod; simpa [Qh2] using g2⟩
mutual
def Q0.wgt : Q0 → Nat
 | .mk _ _ t is => t.length + 30 + Q0.wgts is
def Q0.wgts : List Q0 → Nat
 | [] => 0
 | v :: l => v.wgt + Q0.wgts l
end
theorem Q0.wgt_eq (v : Q0) : v.wgt = v.Text.length + 30 + Q0.wgts v.Items := by cases v; simp only [Q0.wgt]
theorem Q63 : ∀ (l : List Q0), ∀ x ∈ l, x.wgt ≤ Q0.wgts l
 | v :: l, x, hx => by
  simp only [Q0.wgts]
  rcases List.mem_cons.1 hx with rfl | hx
  ·omega
  ·have := Q63 l x hx; omega
theorem Qfq (code : Int) : 0 ≤ (ofS code).Width ∧ (ofS code).Width.toNat ≤ 16 := by
 cases h : ofB code with
 | false => rw [Q9t code h]; decide
 | true =>
  have hw := Qbq code h
  cases hi : (ofS code).Items with
  | false =>
   cases hw.shape hi with
   | sized w hs hw' h12 hk2 hc => rw [hw']; omega
   | wide hs hw' hk2 hc => rw [hw']; decide
   | num w hs hw' hh ht hc hbb => rw [hw']; omega
  | true =>
   obtain ⟨h1, h2⟩ := Ja h hi
   cases hs : (ofS code).Sized with
   | true => have := (h1 hs).1; omega
   | false =>
    have : (ofS code).Width = 0 := (Qjr (P := fun t => t.2.2.2.2 = true → t.2.2.2.1 = false → t.2.2.1 = 0) (B := fun k => !(Wm k).2.2.2.2 || ((Wm k).2.2.2.1 || decide ((Wm k).2.2.1 = 0))) (by decide +kernel) (fun k hk h1 h2 => by simpa [h1, h2] using hk) h) hi hs
    omega
theorem Qnm (code : Int) (v : Q0) : (Qmc code v).1.length ≤ v.Text.length + 16 := by
 unfold Qmc
 split
 ·simp
 ·split
  ·simp
  ·rename_i hf
   have hf : Q0i code v = true := by simpa using hf
   have := Q3y hf
   have := Qfq code
   simp only []
   split at * <;> omega
theorem Qhc (code : Int) (v : Q0) (b : List UInt8) : (Vu code v b).length ≤ v.Text.length + 16 + b.length := by
 unfold Vu
 split
 ·have := Qnm code v; omega
 ·rename_i hi
  have hi : (ofS code).Items = true := by simpa using hi
  split
  ·simp
  ·rename_i hs
   have hs : (ofS code).Sized = true := by simpa using hs
   have hw : (ofS code).Width.toNat ≤ 4 := by
    cases h : ofB code with
    | false => rw [Q9t code h]; decide
    | true => have := (Ja h hi).1 hs; omega
   simp [Xl]; omega
theorem Ge (v : Q0) : v.inn.length ≤ 1 + Q0.wgts v.Items ∧ v.byt.length ≤ v.wgt ∧ ∀ c, (Vu c v v.inn).length + 1 ≤ v.wgt := by
 induction v using Q0.ind with
 | h v ih =>
  have s1 : ∀ (l : List Q0), (∀ x ∈ l, x.byt.length ≤ x.wgt) → (l.map Q0.byt).flatten.length ≤ Q0.wgts l := by
   intro l
   induction l with
   | nil => intro _; simp
   | cons x l ihl =>
    intro h
    have h1 := h x (.head _)
    have h2 := ihl (fun y hy => h y (.tail _ hy))
    simp only [List.map_cons, List.flatten_cons, List.length_append, Q0.wgts]; omega
  have s2 : ∀ (c : Int) (l : List Q0), (∀ x ∈ l, ∀ c, (Vu c x x.inn).length + 1 ≤ x.wgt) → (l.map fun x => Vu c x x.inn).flatten.length ≤ Q0.wgts l := by
   intro c l
   induction l with
   | nil => intro _; simp
   | cons x l ihl =>
    intro h
    have h1 := h x (.head _) c
    have h2 := ihl (fun y hy => h y (.tail _ hy))
    simp only [List.map_cons, List.flatten_cons, List.length_append, Q0.wgts]; omega
  have hin : v.inn.length ≤ 1 + Q0.wgts v.Items := by
   rw [Qcs]
   split
   ·have := s2 v.elm v.Items (fun x hx => (ih x hx).2.2)
    simp only [List.length_cons]; omega
   ·split
    ·simp
    ·have := s1 v.Items (fun x hx => (ih x hx).2.1)
     omega
  have hd : ∀ c, (Vu c v v.inn).length + 1 ≤ v.wgt := fun c => by
   have := Qhc c v v.inn
   rw [v.wgt_eq]; omega
  refine ⟨hin, ?_, hd⟩
  rw [Qfr]
  split
  ·have := s1 v.Items (fun x hx => (ih x hx).2.1)
   rw [v.wgt_eq]; simp only [List.length_cons]; omega
  ·have := hd v.cod
   simp only [List.length_cons]; omega
end
end Go.Av
namespace Go.Av
noncomputable section
open Go.Proofs
set_option maxRecDepth 100000
theorem Q3v {rd : List UInt8 → Rd} {e : Q0 → List UInt8} : ∀ (l acc : List Q0) (rest : List UInt8), (∀ x ∈ l, ∀ t, rd (e x ++ t) = (x, ((e x).length : Int), 0)) → Vk rd l.length ((l.map e).flatten ++ rest) acc = ((acc ++ l, rest), 0)
 | [], acc, rest, _ => by simp [Vk]
 | x :: l, acc, rest, h => by
  have h1 := h x (.head _) ((l.map e).flatten ++ rest)
  rw [List.length_cons, Vk, List.map_cons, List.flatten_cons, List.append_assoc, h1]
  simp only [ne_eq, not_true_eq_false, if_false, Int.toNat_natCast, List.drop_left]
  rw [Q3v l (acc ++ [x]) rest (fun y hy => h y (.tail _ hy))]
  simp
theorem Q6f {c : Int} (h : 0 ≤ c ∧ c < 256) : ((Q84 c).toNat : Int) = c := by
 unfold Q84
 rw [UInt8.toNat_ofNat']
 omega
theorem of0 : ofB 0 = true ∧ (ofS 0).Kind = 25 ∧ (ofS 0).Items = true := by decide +kernel
theorem Qom {code : Int} (h : ofB code = true) (hi : (ofS code).Items = true) (hs : (ofS code).Sized = false) : (ofS code).Width = 0 :=
 (Qjr (P := fun t => t.2.2.2.2 = true → t.2.2.2.1 = false → t.2.2.1 = 0) (B := fun k => !(Wm k).2.2.2.2 || ((Wm k).2.2.2.1 || decide ((Wm k).2.2.1 = 0))) (by decide +kernel) (fun k hk h1 h2 => by simpa [h1, h2] using hk) h) hi hs
theorem Qfg {k num : Int} {l : List Q0} {tot : Nat} (hk : Jw ⟨k, num, [], l⟩ = 0) : Qb2 k num ((l, []), 0) tot = (⟨k, num, [], l⟩, (tot : Int), 0) := by
 unfold Qb2
 rw [if_neg (by simp), if_neg (by simp), if_neg (by simp [hk])]
theorem Qhn {n w : Nat} (s : List UInt8) (h : n < 256 ^ w) : Q00 ((Jg n w ++ s).take w) = n := by
 rw [List.take_left' (Xl w n), Q3u, Nat.mod_eq_of_lt h]
theorem Qg3 {d : Int → List UInt8 → Rd} {c : Qg} {v : Q0} {w : Nat} (hw : c.Width = (w : Int)) (hk : c.Kind = v.Kind) (hs : c.Sized = true) (hn : v.Items.length < 256 ^ w) (hl : v.inn.length + w < 256 ^ w) (hn2 : v.Items.length ≤ 1000)
  (h23 : v.Kind = 23 → v.Items.length % 2 = 0) (hkeys : Jw v = 0) (ht : v.Text = []) (hnum : v.Kind ≠ 24 → v.N' = 0)
  (h24 : v.Kind = 24 → ofB v.elm = true ∧ v.elm ≠ 0 ∧ (ofS v.elm).Kind = v.N' ∧ ∀ x ∈ v.Items, ∀ t, d v.elm (Vu v.elm x x.inn ++ t) = (x, ((Vu v.elm x x.inn).length : Int), 0))
  (hot : v.Kind ≠ 24 → v.Kind ≠ 25 ∧ ∀ x ∈ v.Items, ∀ t, W8 d (x.byt ++ t) = (x, (x.byt.length : Int), 0)) (s : List UInt8) :
  Q3h d c (Jg (v.inn.length + w) w ++ (Jg v.Items.length w ++ v.inn) ++ s) = (v, ((Jg (v.inn.length + w) w ++ (Jg v.Items.length w ++ v.inn)).length : Int), 0) := by
 have hwn : c.Width.toNat = w := by rw [hw]; rfl
 have e0 : (Jg (v.inn.length + w) w ++ (Jg v.Items.length w ++ v.inn) ++ s) = Jg (v.inn.length + w) w ++ ((Jg v.Items.length w ++ v.inn) ++ s) := by rw [List.append_assoc]
 have hlen : (Jg (v.inn.length + w) w ++ ((Jg v.Items.length w ++ v.inn) ++ s)).length = w + (w + v.inn.length + s.length) := by simp [Xl]; omega
 unfold Q3h
 rw [hwn, e0, Qhn _ hl, if_neg (by rw [hlen]; omega), if_neg (by rw [hlen]; omega), List.drop_left' (Xl w _),
  List.take_left' (show (Jg v.Items.length w ++ v.inn).length = v.inn.length + w by simp [Xl]; omega)]
 unfold Qka
 rw [if_neg (by simp [Xl]), Qhn _ hn, if_neg (by omega), if_neg (by rw [hk]; intro h; exact h.2 (h23 h.1)), List.drop_left' (Xl w _)]
 have hv : ∀ num, num = v.N' → (⟨c.Kind, num, [], v.Items⟩ : Q0) = v := fun num h => by
  apply Q0.ext' <;> simp [hk, ht, h]
 have htot : ((w + (v.inn.length + w) : Nat) : Int) = ((Jg (v.inn.length + w) w ++ (Jg v.Items.length w ++ v.inn)).length : Int) := by simp [Xl]; omega
 by_cases h4 : v.Kind = 24
 ·obtain ⟨g1, g2, g3, g4⟩ := h24 h4
  have hr := Q1u g1
  rw [if_pos (by omega)]
  have hin := Qcs v
  rw [if_pos h4] at hin
  rw [hin]
  simp only [Qoc]
  rw [← hin, Q6f hr, if_neg (by
   rintro (h | h)
   ·rw [g1] at h; cases h
   ·have := Q6f hr; omega)]
  have := Q3v (rd := d v.elm) (e := fun x => Vu v.elm x x.inn) v.Items [] [] g4
  rw [List.append_nil, List.nil_append] at this
  rw [this, Qfg (by rw [hv _ g3]; exact hkeys), hv _ g3, htot]
 ·obtain ⟨g1, g2⟩ := hot h4
  rw [if_neg (by omega)]
  have hin := Qcs v
  rw [if_neg h4, if_neg g1] at hin
  have := Q3v (rd := W8 d) (e := Q0.byt) v.Items [] [] g2
  rw [List.append_nil, List.nil_append, ← hin] at this
  rw [this, Qfg (by rw [hv 0 (hnum h4).symm]; exact hkeys), hv 0 (hnum h4).symm, htot]
theorem Qjq {v x : Q0} (hx : x ∈ v.Items) : x.wgt ≤ v.wgt := by
 have := Q63 _ x hx
 rw [v.wgt_eq]; omega
theorem Qlh (v : Q0) : ∀ m : Nat, Fine v → Wo v m = 0 → v.wgt < 4000000000 →
  (∀ c, ofB c = true → (ofS c).Kind = v.Kind → v.Kind ≠ 25 → Q1n c v v.inn = true → ∀ s, Jm m c (Vu c v v.inn ++ s) = (v, ((Vu c v v.inn).length : Int), 0)) ∧
  ∀ s, W8 (Jm m) (v.byt ++ s) = (v, (v.byt.length : Int), 0) := by
 induction v using Q0.ind with
 | h v ih =>
  intro m hf hc hw
  have hP : ∀ c, ofB c = true → (ofS c).Kind = v.Kind → v.Kind ≠ 25 → Q1n c v v.inn = true → ∀ s, Jm m c (Vu c v v.inn ++ s) = (v, ((Vu c v v.inn).length : Int), 0) := by
   intro c c1 c2 c3 c4 s
   rcases Uv hc with ⟨k1, k2, k3⟩ | ⟨k1, k2, k3, k4, k5, k6, k7⟩
   ·have hi := U5 (Qbq c c1) (by omega)
    unfold Q1n at c4
    rw [if_pos hi] at c4
    have hd : Vu c v v.inn = Jf (ofS c) v := by unfold Vu; rw [if_pos hi, Qok c4]
    rw [hd, Qjh c1 hi]
    exact Qo2 hf.num c4 s
   ·obtain ⟨m', rfl⟩ : ∃ m', m = m' + 1 := ⟨m - 1, by omega⟩
    have hi : (ofS c).Items = true := by rw [(Qbq c c1).items, c2]; simp; omega
    obtain ⟨s1, s2, s3, s4, s5⟩ := G3 k4
    have hit : ∀ x ∈ v.Items, Wo x ((m' : Nat) : Int) = 0 := fun x hx => by
     have := (k7 x hx).1
     rwa [show (((m' + 1 : Nat) : Int) - 1) = (m' : Int) by omega] at this
    rw [Q8x c1 hi, Qje, if_neg (by omega)]
    unfold Q1n at c4
    rw [if_neg (by simp [hi])] at c4
    obtain ⟨q1, q2⟩ := Ja c1 hi
    have hlen := (Ge v).1
    rw [v.wgt_eq] at hw
    by_cases hs : (ofS c).Sized = true
    ·rw [if_neg (by simp [hs])]
     have hd : Vu c v v.inn = Jg (v.inn.length + (ofS c).Width.toNat) (ofS c).Width.toNat ++ (Jg v.Items.length (ofS c).Width.toNat ++ v.inn) := by
      unfold Vu
      rw [if_neg (by simp [hi]), if_neg (by simp [hs])]
     rw [hd]
     obtain ⟨w1, w2⟩ := q1 hs
     have c5 : (ofS c).Width = 4 ∨ (v.Items.length < 256 ∧ v.inn.length + 1 < 256) := by
      rw [if_neg (by omega)] at c4
      simpa using c4
     refine Qg3 (w := (ofS c).Width.toNat) (by have := Qfq c; omega) c2 hs ?_ ?_ k5 s5 k6 s1 s3 (fun h4 => ?_) (fun h4 => ⟨c3, fun x hx t => (ih x hx m' (hf.items x hx) (hit x hx) (by have := Q63 _ x hx; omega)).2 t⟩) s
     ·rcases w1 with w1 | w1
      ·rw [w1] at c5 ⊢; show v.Items.length < 256 ^ 1; omega
      ·rw [w1]; show v.Items.length < 256 ^ 4; omega
     ·rcases w1 with w1 | w1
      ·rw [w1] at c5 ⊢; show v.inn.length + 1 < 256 ^ 1; omega
      ·rw [w1]; show v.inn.length + 4 < 256 ^ 4; omega
     ·obtain ⟨e1, e2⟩ := Qm3 hf hc h4
      obtain ⟨d1, d2, d3⟩ := Q4n _ _ e1
      have hnn := s2 h4
      refine ⟨d1, fun h0 => ?_, d3, fun x hx t => ?_⟩
      ·rw [h0] at d3
       have := of0.2.1
       omega
      ·have hkx : x.Kind = v.N' := by
        have := (k7 x hx).2 h4
        rwa [Qcb (k7 x hx).1] at this
       exact (ih x hx m' (hf.items x hx) (hit x hx) (by have := Q63 _ x hx; omega)).1 v.elm d1 (by rw [d3, hkx]) (by omega) (e2 x hx) t
    ·have hs : (ofS c).Sized = false := by simpa using hs
     rw [if_pos hs]
     have hw0 := Qom c1 hi hs
     rw [if_pos hw0] at c4
     have hl0 : v.Items = [] := List.length_eq_zero_iff.1 (by simpa using c4)
     have hk := q2 hs
     have hd : Vu c v v.inn = [] := by
      unfold Vu
      rw [if_neg (by simp [hi]), if_pos hs]
     rw [hd]
     have hve : (⟨(ofS c).Kind, 0, [], []⟩ : Q0) = v := by
      apply Q0.ext' <;> simp [c2, s1, hl0]
      exact (s3 (by omega)).symm
     rw [hve]; rfl
  refine ⟨hP, fun s => ?_⟩
  by_cases h5 : v.Kind = 25
  ·rcases Uv hc with ⟨k1, k2, k3⟩ | ⟨k1, k2, k3, k4, k5, k6, k7⟩
   ·omega
   obtain ⟨m', rfl⟩ : ∃ m', m = m' + 1 := ⟨m - 1, by omega⟩
   obtain ⟨s1, s2, s3, s4, s5⟩ := G3 k4
   rw [Qfr, if_pos h5, List.cons_append, W8]
   obtain ⟨o1, o2, o3⟩ := of0
   have hz : (((0 : UInt8).toNat : Nat) : Int) = 0 := rfl
   rw [hz, Q8x o1 o3, Qje, if_pos o2]
   have hr := Q3v (rd := W8 (Jm m')) (e := Q0.byt) v.Items [] s (fun x hx t => (ih x hx m' (hf.items x hx) (by
    have := (k7 x hx).1
    rwa [show (((m' + 1 : Nat) : Int) - 1) = (m' : Int) by omega] at this) (by have := Qjq hx; omega)).2 t)
   rw [s4 h5, List.nil_append] at hr
   have hv : (⟨25, 0, [], v.Items⟩ : Q0) = v := by
    apply Q0.ext' <;> simp [h5, s1]
    exact (s3 (by omega)).symm
   unfold Qlm
   rw [hr, if_neg (by simp), hv, if_neg (by simp)]
   simp only [Prod.mk.injEq, true_and, and_true]
   simp
  ·obtain ⟨g1, g2⟩ := Qm4 hf hc h5
   obtain ⟨d1, d2, d3⟩ := Q4n _ _ g1
   rw [Qfr, if_neg h5, List.cons_append, W8, Q6f (Q1u d1), hP v.cod d1 d3 h5 g2 s, if_neg (by simp)]
   simp
end
end Go.Av
namespace Go.Av
noncomputable section
open Go.Proofs
set_option maxRecDepth 100000
def Q2i (v : Q0) : Int := if nnS v = true then (if v.Kind = 11 then 2143289344 else 9221120237041090560) else v.N'
mutual
def Q0.nrm : Q0 → Q0
 | .mk k n t is => ⟨k, Q2i ⟨k, n, t, is⟩, t, Q0.nrms is⟩
def Q0.nrms : List Q0 → List Q0
 | [] => []
 | v :: l => v.nrm :: Q0.nrms l
end
theorem Qhv : ∀ l, Q0.nrms l = l.map Q0.nrm
 | [] => rfl
 | v :: l => by rw [Q0.nrms, Qhv l]; rfl
theorem Q6i (v : Q0) : v.nrm = ⟨v.Kind, Q2i v, v.Text, v.Items.map Q0.nrm⟩ := by cases v; rw [Q0.nrm, Qhv]
theorem Q1d (v : Q0) : v.nrm.Kind = v.Kind := by rw [Q6i]
theorem Q64 (v : Q0) : v.nrm.Text = v.Text := by rw [Q6i]
theorem Jd (v : Q0) : v.nrm.Items = v.Items.map Q0.nrm := by rw [Q6i]
theorem Q6x (v : Q0) : v.nrm.N' = Q2i v := by rw [Q6i]
theorem Qq3 (x : Int) : Q5 .neq x 0 = decide (x ≠ 0) := by rw [Bool.eq_iff_iff, Va]; simp
theorem Q54 (v : Q0) : nnS v = ((decide (v.Kind = 11) && (decide (Gf .u64 (Q21 .u64 v.N' 23) 255 = 255) && decide (Jq .u64 v.N' 41 ≠ 0))) || (decide (v.Kind = 12) && (decide (Gf .u64 (Q21 .u64 v.N' 52) 2047 = 2047) && decide (Jq .u64 v.N' 12 ≠ 0)))) := by
 have h := Qnk 0 v
 unfold Z4 at h
 simp only [Q7, Wx] at h
 by_cases k1 : v.Kind = 11
 ·have k2 : ¬ v.Kind = 12 := by omega
  rw [if_pos k1] at h
  split at h
  ·rename_i h1
   simp only [Option.some.injEq] at h
   rw [← h]
   rw [Qq3]
   simp [k1, h1]
  ·rename_i h1
   simp only [Option.some.injEq] at h
   rw [← h]
   simp [k1, h1]
 ·rw [if_neg k1] at h
  by_cases k2 : v.Kind = 12
  ·rw [if_pos k2] at h
   split at h
   ·rename_i h1
    simp only [Option.some.injEq] at h
    rw [← h]
    rw [Qq3]
    simp [k2, h1]
   ·rename_i h1
    simp only [Option.some.injEq] at h
    rw [← h]
    simp [k2, h1]
  ·rw [if_neg k2] at h
   simp only [Option.some.injEq] at h
   rw [← h]
   simp [k1, k2]
theorem Q7o {v : Q0} (h : nnS v = true) : v.Kind = 11 ∨ v.Kind = 12 := by
 rw [Q54] at h
 simp only [Bool.or_eq_true, Bool.and_eq_true, decide_eq_true_eq] at h
 omega
theorem Q79 {v w : Q0} (h1 : v.Kind = w.Kind) (h2 : v.N' = w.N') : nnS v = nnS w := by rw [Q54, Q54, h1, h2]
theorem Q9w (k : Int) (t : List UInt8) (is : List Q0) (h : k = 11 ∨ k = 12) : nnS ⟨k, if k = 11 then 2143289344 else 9221120237041090560, t, is⟩ = true := by
 rcases h with rfl | rfl
 ·exact (Q79 (w := ⟨11, 2143289344, [], []⟩) rfl rfl).trans (by rw [Q54]; decide)
 ·exact (Q79 (w := ⟨12, 9221120237041090560, [], []⟩) rfl rfl).trans (by rw [Q54]; decide)
theorem Qhw {v : Q0} (h : nnS v = true) : Q2i v = if v.Kind = 11 then 2143289344 else 9221120237041090560 := by unfold Q2i; rw [if_pos h]
theorem Qa6 {v : Q0} (h : nnS v = false) : Q2i v = v.N' := by unfold Q2i; rw [if_neg (by simp [h])]
theorem Qof (v : Q0) : nnS v.nrm = nnS v := by
 cases h : nnS v with
 | true =>
  have hk := Q7o h
  rw [Q6i]
  unfold Q2i
  rw [if_pos h]
  exact Q9w _ _ _ hk
 | false =>
  rw [← h]
  refine Q79 (Q1d v) ?_
  rw [Q6x]
  unfold Q2i
  rw [if_neg (by simp [h])]
theorem Qlt (v : Q0) : v.nrm.sz = v.sz := by
 induction v using Q0.ind with
 | h v ih =>
  have hl : ∀ l : List Q0, (∀ x ∈ l, x.nrm.sz = x.sz) → Q0.szs (l.map Q0.nrm) = Q0.szs l := by
   intro l
   induction l with
   | nil => intro _; rfl
   | cons x l ihl => intro h; simp only [List.map_cons, Q0.szs, h x (.head _), ihl (fun y hy => h y (.tail _ hy))]
  rw [Q0.sz_eq, Jd, hl _ ih, v.sz_eq]
theorem Qnn (v : Q0) : v.nrm.wgt = v.wgt := by
 induction v using Q0.ind with
 | h v ih =>
  have hl : ∀ l : List Q0, (∀ x ∈ l, x.nrm.wgt = x.wgt) → Q0.wgts (l.map Q0.nrm) = Q0.wgts l := by
   intro l
   induction l with
   | nil => intro _; rfl
   | cons x l ihl => intro h; simp only [List.map_cons, Q0.wgts, h x (.head _), ihl (fun y hy => h y (.tail _ hy))]
  rw [Q0.wgt_eq, Jd, hl _ ih, v.wgt_eq, Q64]
theorem Qku {v : Q0} (h : okU v.N') : okU (Q2i v) := by
 unfold Q2i
 split
 ·split <;> exact ⟨by omega, by omega⟩
 ·exact h
theorem Qks {v : Q0} (h : Fine v) : Fine v.nrm := by
 induction v using Q0.ind with
 | h v ih =>
  refine .mk _ (by rw [Q6x]; exact Qku h.num) (by rw [Q64]; exact h.text) (fun x hx => ?_)
  rw [Jd] at hx
  obtain ⟨y, hy, rfl⟩ := List.mem_map.1 hx
  exact ih y hy (h.items y hy)
theorem Qbk {v : Q0} (h : v.Kind ≠ 11 ∧ v.Kind ≠ 12) : Q2i v = v.N' := by
 unfold Q2i
 rw [if_neg (fun hn => by have := Q7o hn; omega)]
theorem Qci : ∀ (n : Nat) (a b : Q0), a.sz ≤ n → Gw a.nrm b.nrm = true → Gw a b = true
 | 0, a, b, h, _ => by have := a.sz_eq; omega
 | n + 1, a, b, h, hh => by
  have hs := a.sz_eq
  rw [Q7h] at hh ⊢
  simp only [Q1d, Q64, Jd, Q6x, Qof, List.length_map, Bool.and_eq_true, Bool.or_eq_true, decide_eq_true_eq] at hh ⊢
  obtain ⟨h1, h2, h3, h4, h5⟩ := hh
  refine ⟨h1, h2, h3, ?_, ?_⟩
  ·rcases h4 with h4 | h4
   ·cases na : nnS a <;> cases nb : nnS b
    ·left; rw [Qa6 na, Qa6 nb] at h4; exact h4
    ·rw [Qa6 na, Qhw nb] at h4
     have hk := Q7o nb
     have : nnS a = true := by
      rw [← Q9w a.Kind [] [] (by omega)]
      refine Q79 rfl ?_
      show a.N' = _
      rw [h4, h1]
     rw [na] at this; cases this
    ·rw [Qhw na, Qa6 nb] at h4
     have hk := Q7o na
     have : nnS b = true := by
      rw [← Q9w b.Kind [] [] (by omega)]
      refine Q79 rfl ?_
      show b.N' = _
      rw [← h4, h1]
     rw [nb] at this; cases this
    ·right; exact ⟨rfl, rfl⟩
   ·right; exact h4
  ·have hl : ∀ (l m : List Q0), Q0.szs l ≤ n → Gb (l.map Q0.nrm) (m.map Q0.nrm) = true → Gb l m = true := by
    intro l
    induction l with
    | nil => intro m _ _; rfl
    | cons x l ihl =>
     intro m hz hm
     simp only [Q0.szs] at hz
     cases m with
     | nil => simp [Gb] at hm
     | cons y m =>
      simp only [List.map_cons, Gb, Bool.and_eq_true] at hm ⊢
      exact ⟨Qci n x y (by omega) hm.1, ihl m (by omega) hm.2⟩
   exact hl _ _ (by omega) h5
theorem Qli {v : Q0} (h : Jw v = 0) : Jw v.nrm = 0 := by
 unfold Jw at h ⊢
 rw [Q1d]
 split
 ·rfl
 ·rename_i hk
  rw [if_neg hk] at h
  split at h
  ·cases h
  ·rename_i hne
   rw [if_neg]
   rintro ⟨i, j, h1, h2, h3, h4, h5, x, y, hx, hy, ha⟩
   rw [Jd, List.length_map] at h3
   rw [Jd, List.getElem?_map] at hx hy
   cases hxi : v.Items[i]? with
   | none => rw [hxi] at hx; cases hx
   | some x' =>
    cases hyi : v.Items[j]? with
    | none => rw [hyi] at hy; cases hy
    | some y' =>
     rw [hxi] at hx; rw [hyi] at hy
     cases hx; cases hy
     exact hne ⟨i, j, h1, h2, h3, h4, h5, x', y', hxi, hyi, Qci _ x' y' (Nat.le_refl _) ha⟩
theorem Qix {v : Q0} (h : Q2r v.Kind v.N' = true) : Q2r v.Kind (Q2i v) = true := by
 unfold Q2i
 split
 ·rename_i hn
  rcases Q7o hn with hk | hk <;> rw [hk] <;> decide
 ·exact h
theorem Qgi {v : Q0} (h : Wb v = 0) : Wb v.nrm = 0 := by
 obtain ⟨c1, c2, c3, c4, c5, c6, c7⟩ := J2 h
 unfold Wb at h ⊢
 simp only [Q1d, Q64, Jd, Q6x, c4, List.map_nil] at h ⊢
 rw [Qix c3]
 rw [c3] at h
 exact h
theorem Qg2 {v : Q0} (hk : 22 ≤ v.Kind) (h : J8 v = true) : J8 v.nrm = true := by
 obtain ⟨s1, s2, s3, s4, s5⟩ := G3 h
 have : v.nrm = ⟨v.Kind, v.N', [], v.Items.map Q0.nrm⟩ := by rw [Q6i, Qbk (by omega), s1]
 rw [this]
 exact Qc6 s2 s3 (fun h => by rw [List.length_map]; exact s4 h) (fun h => by rw [List.length_map]; exact s5 h)
theorem Qj9 (v : Q0) : ∀ m : Int, Wo v m = 0 → Wo v.nrm m = 0 := by
 induction v using Q0.ind with
 | h v ih =>
  intro m h
  rcases Uv h with ⟨k1, k2, k3⟩ | ⟨k1, k2, k3, k4, k5, k6, k7⟩
  ·rw [Q1q, Q1d, if_neg (by omega), if_neg (by omega), if_pos k2]
   exact Qgi k3
  ·rw [Q1q, Q1d, if_neg (by omega), if_neg (by omega), if_neg (by omega), if_neg k3, Qg2 k1 k4, if_neg (by simp), Jd, List.length_map, if_neg (by omega), Qli k6, Q6x, Qbk (by omega)]
   refine Q4s _ _ _ _ (fun x hx => ?_)
   obtain ⟨y, hy, rfl⟩ := List.mem_map.1 hx
   refine ⟨ih y hy _ (k7 y hy).1, fun hk => ?_⟩
   rw [Q1d]; exact (k7 y hy).2 hk
end
end Go.Av
namespace Go.Av
noncomputable section
open Go.Proofs
set_option maxRecDepth 100000
theorem Q9e {R : Q0 → Option Q0} {N : Nat} {v : Q0} (hb : v.sz < 1000000000) (hR : ∀ y ∈ v.Items, R y = some y) : ∀ (n i : Nat), i ≤ v.Items.length → v.Items.length - i < n → Zc R N v n (i : Int) (v.Items.take i) = some v
 | 0, i, _, h => by omega
 | n + 1, i, hi, hn => by
  have hs := v.sz_eq
  have hl := Q0.szs_len v.Items
  simp only [Zc, Q7, Wg, Z1, X5]
  by_cases h : i < v.Items.length
  ·rw [if_pos (by omega), List.getElem?_eq_getElem h]
   simp only [Option.bind_some, hR _ (List.getElem_mem h)]
   rw [if_pos (by rw [Nat.ble_eq, List.length_take]; omega), Z5 _ (by omega), ← List.take_succ_eq_append_getElem h]
   exact_mod_cast Q9e (N := N) hb hR n (i + 1) (by omega) (by omega)
  ·rw [if_neg (by omega), List.take_of_length_le (by omega)]
   cases v; rfl
theorem Q9h : ∀ (N : Nat) (v : Q0), v.sz < N → v.sz < 1000000000 → Zw N v = some v
 | 0, v, h, _ => by omega
 | N + 1, v, h, h2 => by
  have hs := v.sz_eq
  have hl := Q0.szs_len v.Items
  have := Q9e (R := Zw N) (N := N) (v := v) h2 (fun y hy => Q9h N y (by have := Q0.szs_mem _ y hy; omega) (by have := Q0.szs_mem _ y hy; omega)) N 0 (by omega) (by omega)
  exact this
theorem Q96 {R : Q0 → Option Q0} {N : Nat} {v w : Q0} {c : Int} (hb : v.sz < 1000000000) (hR : ∀ y ∈ v.Items, R y = some y.nrm) : ∀ (n i : Nat), i ≤ v.Items.length → v.Items.length - i < n →
  Yd R N v w c n (i : Int) ((v.Items.take i).map Q0.nrm ++ v.Items.drop i) = some ⟨w.Kind, c, w.Text, v.Items.map Q0.nrm⟩
 | 0, i, _, h => by omega
 | n + 1, i, hi, hn => by
  have hs := v.sz_eq
  have hl := Q0.szs_len v.Items
  have hlen : ((v.Items.take i).map Q0.nrm).length = i := by rw [List.length_map, List.length_take]; omega
  simp only [Yd, Q7, Wg, Z1, X5]
  by_cases h : i < v.Items.length
  ·rw [if_pos (by omega), List.getElem?_eq_getElem h]
   simp only [Option.bind_some, hR _ (List.getElem_mem h)]
   rw [List.getElem?_append_right (by omega), hlen, Nat.sub_self, List.drop_eq_getElem_cons h]
   simp only [List.getElem?_cons_zero, Option.bind_some, Int.toNat_natCast]
   rw [Z5 _ (by omega), List.set_append_right _ _ (by omega), hlen, Nat.sub_self, List.set_cons_zero]
   have e : (v.Items.take i).map Q0.nrm ++ v.Items[i].nrm :: v.Items.drop (i + 1) = (v.Items.take (i + 1)).map Q0.nrm ++ v.Items.drop (i + 1) := by
    rw [List.take_succ_eq_append_getElem h, List.map_append, List.append_assoc]; rfl
   rw [e]
   exact_mod_cast Q96 (N := N) hb hR n (i + 1) (by omega) (by omega)
  ·rw [if_neg (by omega), List.take_of_length_le (by omega), List.drop_of_length_le (by omega), List.append_nil]
theorem Qlc {n : Int} (h : okU n) : ((Gf .u64 n 2139095040 = 2139095040) = (Gf .u64 (Q21 .u64 n 23) 255 = 255)) ∧ ((Gf .u64 n 8388607 ≠ 0) = (Jq .u64 n 41 ≠ 0)) ∧
  ((Gf .u64 n 9218868437227405312 = 9218868437227405312) = (Gf .u64 (Q21 .u64 n 52) 2047 = 2047)) ∧ ((Gf .u64 n 4503599627370495 ≠ 0) = (Jq .u64 n 12 ≠ 0)) := by
 obtain ⟨h0, h1⟩ := h
 obtain ⟨n, rfl⟩ := Int.eq_ofNat_of_zero_le h0
 have h1 : n < 18446744073709551616 := by omega
 have e1 := Qpf n 8 23 h1 (by decide) (by decide) (by decide)
 have e2 := Qpf n 11 52 h1 (by decide) (by decide) (by decide)
 rw [show ((2 ^ 8 - 1 : Nat) : Int) = 255 from rfl, show (((2 ^ 8 - 1) * 2 ^ 23 : Nat) : Int) = 2139095040 from rfl, show ((23 : Nat) : Int) = 23 from rfl] at e1
 rw [show ((2 ^ 11 - 1 : Nat) : Int) = 2047 from rfl, show (((2 ^ 11 - 1) * 2 ^ 52 : Nat) : Int) = 9218868437227405312 from rfl, show ((52 : Nat) : Int) = 52 from rfl] at e2
 exact ⟨e1.symm, Qp2 n h1, e2.symm, Qop n h1⟩
theorem Q57 : ∀ (N : Nat) (v : Q0), Fine v → v.sz + 1 < N → v.sz < 1000000000 → Zl N v = some v.nrm
 | 0, v, _, h, _ => by omega
 | N + 1, v, hf, h, h2 => by
  have hs := v.sz_eq
  have hl := Q0.szs_len v.Items
  have hL : ∀ c, Ze (Zl N) N v v c = some ⟨v.Kind, c, v.Text, v.Items.map Q0.nrm⟩ := fun c => by
   have := Q96 (R := Zl N) (N := N) (v := v) (w := v) (c := c) h2 (fun y hy => Q57 N y (hf.items y hy) (by have := Q0.szs_mem _ y hy; omega) (by have := Q0.szs_mem _ y hy; omega)) N 0 (by omega) (by omega)
   simpa [Ze] using this
  rw [Q6i]
  show W6 (Zl N) N v = _
  obtain ⟨b1, b2, b3, b4⟩ := Qlc hf.num
  simp only [W6, Q9h N v (by omega) h2, Option.bind_some, Yb, Zq, Yh, hL, Q7, Wx, Va, b1, b2, b3, b4]
  have hd := Q54 v
  unfold Q2i
  by_cases k1 : v.Kind = 11
  ·have k2 : ¬ v.Kind = 12 := by omega
   simp only [k1, decide_true, Bool.true_and, show decide ((11 : Int) = 12) = false from rfl, Bool.false_and, Bool.or_false] at hd
   simp only [if_pos k1, if_neg k2]
   by_cases q1 : Gf .u64 (Q21 .u64 v.N' 23) 255 = 255 <;> by_cases q2 : Jq .u64 v.N' 41 ≠ 0 <;> simp [hd, q1, q2]
  ·simp only [if_neg k1]
   by_cases k2 : v.Kind = 12
   ·simp only [k2, show decide ((12 : Int) = 11) = false from rfl, decide_true, Bool.true_and, Bool.false_and, Bool.false_or] at hd
    simp only [if_pos k2]
    by_cases q1 : Gf .u64 (Q21 .u64 v.N' 52) 2047 = 2047 <;> by_cases q2 : Jq .u64 v.N' 12 ≠ 0 <;> simp [hd, q1, q2]
   ·simp only [k1, k2, decide_false, Bool.false_and, Bool.or_false] at hd
    simp [hd, k2]
end
end Go.Av
