/- Part of the proof of FromsnApart: for every input the law returns true; no condition. -/
import Derived.Test.YtjhombimklaciaaGreatDoorRegE
namespace Go.Av
noncomputable section
def Q5k (R : Reg) (c : List UInt8) (id : Int) : List UInt8 × Int := match Xp c 0 R with
 | none => ([], 11)
 | some (_, C) => match G8 id 0 C.all with
  | none => ([], 11)
  | some (_, v) => (v.1, 0)
def Q2v (R : Reg) (c : List UInt8) (id : Int) : Bool := match Xp c 0 R with
 | none => false
 | some (_, C) => match G8 id 0 C.all with
  | none => false
  | some (_, v) => v.2
def Qme (C : Option RCl) (n : List UInt8) : (Int × Bool × Int) × RCl := match C with
 | none => ((1, true, 0), ⟨[(n, 1)], [(1, n, false)], [], 2⟩)
 | some C => match Q39 n 0 C.ids with
  | some (_, id) => ((id, false, 0), C)
  | none => match Q4b C.all 65536 C.next with
   | some (id, nx) => if id = 0 then ((0, false, 12), ⟨C.ids, C.all, [], nx⟩) else ((id, true, 0), ⟨C.ids ++ [(n, id)], C.all ++ [(id, n, false)], [], nx⟩)
   | none => ((0, false, 12), C)
def Qmc (C : Option RCl) (n : List UInt8) (id : Int) : Int × RCl := match C with
 | none => (0, ⟨[(n, id)], [(id, n, true)], [], 1⟩)
 | some C => match G8 id 0 C.all with
  | some (_, v) => if v = (n, true) then (0, C) else (16, C)
  | none => match Q39 n 0 C.ids with
   | some _ => (16, C)
   | none => (0, ⟨C.ids ++ [(n, id)], C.all ++ [(id, n, true)], C.back, C.next⟩)
def Qmd (R : Reg) (c : List UInt8) (C : RCl) : Reg := match Xp c 0 R with
 | none => R ++ [(c, C)]
 | some (i, _) => R.set i (c, C)
def Q4e (R : Reg) (c : List UInt8) : Option RCl := (Xp c 0 R).map (·.2)
def Qiv (ok : Bool) (R : Reg) (c n : List UInt8) : (Int × Bool × Int) × Reg := if ok then ((Qme (Q4e R c) n).1, Qmd R c (Qme (Q4e R c) n).2) else ((0, false, 10), R)
def Qkt (ok : Bool) (R : Reg) (c n : List UInt8) (id : Int) : Int × Reg := if ok then (if 1 ≤ id ∧ id ≤ 65534 then ((Qmc (Q4e R c) n id).1, Qmd R c (Qmc (Q4e R c) n id).2) else (2, R)) else (10, R)
def WC (C : RCl) : Prop := C.back = [] ∧ 1 ≤ C.next ∧ C.next ≤ 65535
def WR (R : Reg) : Prop := ∀ q ∈ R, WC q.2
instance (R : Reg) : Decidable (WR R) := by unfold WR WC; infer_instance
theorem Q6f (all : List (Int × List UInt8 × Bool)) : ∀ (N : Nat) (s : Int), 1 ≤ s → s ≤ 65535 → 65535 - s < N → ∃ id nx, Q4b all N s = some (id, nx) ∧ 1 ≤ nx ∧ nx ≤ 65535 ∧ (id = 0 ∨ 1 ≤ id)
 | 0, s, _, _, h => by omega
 | N + 1, s, h1, h2, h3 => by
  simp only [Q4b, if_pos h1]
  by_cases h4 : s ≤ 65534
  ·rw [if_pos h4]
   cases ha : G8 s 0 all with
   | none => exact ⟨s, s + 1, rfl, by omega, by omega, .inr h1⟩
   | some v => exact Q6f all N (s + 1) (by omega) (by omega) (by omega)
  rw [if_neg h4];exact ⟨0, s, rfl, h1, h2, .inl rfl⟩
theorem Qep {c : List UInt8} {R : Reg} {i : Nat} {C : RCl} (h : Xp c 0 R = some (i, C)) : (c, C) ∈ R := Mo (Q0z R 0 i C h).2
theorem Q5e {c : List UInt8} {R : Reg} {i : Nat} {C : RCl} (h : Xp c 0 R = some (i, C)) : R.set i (c, C) = R := by
 have e := (Q0z R 0 i C h).2;rw [Nat.sub_zero] at e;obtain ⟨hl, he⟩ := La.1 e;rw [← he, List.set_getElem_self]
theorem Qdf {c d : List UInt8} {C : RCl} : ∀ (R : Reg) (n : Nat), Xp c n R = none → Xp d n (R ++ [(c, C)]) = if d = c then some (n + R.length, C) else Xp d n R
 | [], n, _ => by simp [Xp]
 | (k, D) :: R, n, h => by
  simp only [Xp] at h;split at h
  ·cases h
  rename_i hk;simp only [Nw, Xp];rw [Qdf R (n + 1) h]
  by_cases hd : d = k
  ·subst hd;rw [if_pos rfl, if_neg (fun e => hk e.symm), if_pos rfl]
  rw [if_neg hd, if_neg hd]
  by_cases hc : d = c
  ·rw [if_pos hc, if_pos hc, Mi]; congr 2; omega
  rw [if_neg hc, if_neg hc]
theorem Qdl {c d : List UInt8} {C D : RCl} : ∀ (R : Reg) (n i : Nat), Xp c n R = some (i, D) → Xp d n (R.set (i - n) (c, C)) = if d = c then some (i, C) else Xp d n R
 | [], n, i, h => by cases h
 | (k, E) :: R, n, i, h => by
  simp only [Xp] at h;split at h
  ·rename_i hk;cases h; subst hk;rw [Bk, List.set_cons_zero];simp only [Xp]
   by_cases hd : d = c
   ·rw [if_pos hd, if_pos hd]
   rw [if_neg hd, if_neg hd, if_neg hd]
  rename_i hk;have hle := (Q0z R (n + 1) i D h).1;rw [show i - n = (i - (n + 1)) + 1 by omega, List.set_cons_succ];simp only [Xp];rw [Qdl R (n + 1) i h]
  by_cases hd : d = k
  ·subst hd;rw [if_pos rfl, if_neg (fun e => hk e.symm), if_pos rfl]
  rw [if_neg hd, if_neg hd]
theorem Qgc (R : Reg) (c d : List UInt8) (C : RCl) : Q4e (Qmd R c C) d = if d = c then some C else Q4e R d := by
 unfold Q4e Qmd
 cases h : Xp c 0 R with
 | none =>
  show (Xp d 0 (R ++ [(c, C)])).map _ = _;rw [Qdf R 0 h]
  by_cases hd : d = c
  ·rw [if_pos hd, if_pos hd]; rfl
  rw [if_neg hd, if_neg hd]
 | some q =>
  obtain ⟨i, D⟩ := q;show (Xp d 0 (R.set i (c, C))).map _ = _;have := Qdl (d := d) (C := C) R 0 i h;rw [Nat.sub_zero] at this;rw [this]
  by_cases hd : d = c
  ·rw [if_pos hd, if_pos hd]; rfl
  rw [if_neg hd, if_neg hd]
theorem Qm5 {R S : Reg} {c : List UInt8} (h : Q4e R c = Q4e S c) (id : Int) : Q5k R c id = Q5k S c id ∧ Q2v R c id = Q2v S c id := by
 unfold Q4e at h;unfold Q5k Q2v
 cases h1 : Xp c 0 R with
 | none =>
  cases h2 : Xp c 0 S with
  | none => exact ⟨rfl, rfl⟩
  | some q => rw [h1, h2] at h; cases h
 | some q =>
  cases h2 : Xp c 0 S with
  | none => rw [h1, h2] at h; cases h
  | some q' =>
   rw [h1, h2] at h;obtain ⟨i, C⟩ := q;obtain ⟨j, D⟩ := q';cases h;exact ⟨rfl, rfl⟩
theorem Qbz (ok : Bool) (R : Reg) (c n d : List UInt8) : Q4e (Qiv ok R c n).2 d = if ok = true ∧ d = c then some (Qme (Q4e R c) n).2 else Q4e R d := by
 unfold Qiv
 cases ok with
 | false => simp
 | true =>
  show Q4e (Qmd R c _) d = _;rw [Qgc]
  by_cases hd : d = c <;> simp [hd]
theorem Qbu (ok : Bool) (R : Reg) (c n d : List UInt8) (id : Int) : Q4e (Qkt ok R c n id).2 d = if (ok = true ∧ 1 ≤ id ∧ id ≤ 65534) ∧ d = c then some (Qmc (Q4e R c) n id).2 else Q4e R d := by
 unfold Qkt
 cases ok with
 | false => simp
 | true =>
  by_cases hi : 1 ≤ id ∧ id ≤ 65534
  ·rw [if_pos rfl, if_pos hi];show Q4e (Qmd R c _) d = _;rw [Qgc]
   by_cases hd : d = c <;> simp [hd, hi]
  rw [if_pos rfl, if_neg hi, if_neg (fun h => hi h.1.2)]
theorem Qp0 {R : Reg} {c : List UInt8} {C : RCl} (h : WR R) (hc : WC C) : WR (Qmd R c C) := by
 unfold Qmd;intro q hq
 cases hf : Xp c 0 R with
 | none =>
  rw [hf] at hq
  rcases Mf.1 hq with h1 | h1
  ·exact h q h1
  simp at h1; subst h1; exact hc
 | some x =>
  rw [hf] at hq
  rcases Bq hq with h1 | h1
  ·exact h q h1
  subst h1; exact hc
theorem Qoi {R : Reg} {c : List UInt8} {C : RCl} (h : WR R) (hc : Q4e R c = some C) : WC C := by
 unfold Q4e at hc
 cases hf : Xp c 0 R with
 | none => rw [hf] at hc; cases hc
 | some x =>
  rw [hf] at hc;obtain ⟨i, D⟩ := x;cases hc;exact h _ (Qep hf)
theorem Qrr {C : Option RCl} (h : ∀ D, C = some D → WC D) (n : List UInt8) : WC (Qme C n).2 := by
 cases C with
 | none => exact ⟨rfl, by simp [Qme, Qmc], by simp [Qme, Qmc]⟩
 | some C =>
  obtain ⟨h1, h2, h3⟩ := h C rfl;unfold Qme;simp only []
  cases hn : Q39 n 0 C.ids with
  | some q => exact ⟨h1, h2, h3⟩
  | none =>
   obtain ⟨id, nx, hl, h4, h5, _⟩ := Q6f C.all 65536 C.next h2 h3 (by omega)
   simp only [hl];split
   ·exact ⟨rfl, h4, h5⟩
   exact ⟨rfl, h4, h5⟩
theorem Qsf {C : Option RCl} (h : ∀ D, C = some D → WC D) (n : List UInt8) (id : Int) : WC (Qmc C n id).2 := by
 cases C with
 | none => exact ⟨rfl, by simp [Qme, Qmc], by simp [Qme, Qmc]⟩
 | some C =>
  have hc := h C rfl;unfold Qmc;simp only []
  cases ha : G8 id 0 C.all with
  | some q => simp only []; split <;> exact hc
  | none =>
   simp only []
   cases hn : Q39 n 0 C.ids with
   | some q => exact hc
   | none => exact hc
theorem Qs4 {R : Reg} (h : WR R) (ok : Bool) (c n : List UInt8) : WR (Qiv ok R c n).2 := by
 unfold Qiv;split
 ·exact Qp0 h (Qrr (fun D hD => Qoi h hD) n)
 exact h
theorem Qsd {R : Reg} (h : WR R) (ok : Bool) (c n : List UInt8) (id : Int) : WR (Qkt ok R c n id).2 := by
 unfold Qkt;split
 ·split
  ·exact Qp0 h (Qsf (fun D hD => Qoi h hD) n id)
  exact h
 exact h
def Q4r (ok : List UInt8 → Bool) (R : Reg) (t : List UInt8 × List UInt8 × Int) : Reg := if t.2.2 = 0 then (Qiv (ok t.2.1) R t.1 t.2.1).2 else (Qkt (ok t.2.1) R t.1 t.2.1 t.2.2).2
def Q2z (ok : List UInt8 → Bool) (l : List (List UInt8 × List UInt8 × Int)) : Reg := l.foldl (Q4r ok) []
theorem Qpb (ok : List UInt8 → Bool) {R : Reg} (h : WR R) (t : List UInt8 × List UInt8 × Int) : WR (Q4r ok R t) := by
 unfold Q4r;split
 ·exact Qs4 h _ _ _
 exact Qsd h _ _ _ _
theorem Qg9 (ok : List UInt8 → Bool) : ∀ (l : List (List UInt8 × List UInt8 × Int)) (R : Reg), WR R → WR (l.foldl (Q4r ok) R)
 | [], _, h => h
 | t :: l, R, h => Qg9 ok l _ (Qpb ok h t)
theorem Qpf (ok : List UInt8 → Bool) (l : List (List UInt8 × List UInt8 × Int)) : WR (Q2z ok l) := Qg9 ok l [] (fun q h => by cases h)
theorem Qib (ok : List UInt8 → Bool) (R : Reg) (t : List UInt8 × List UInt8 × Int) (c : List UInt8) (h : t.1 ≠ c) : Q4e (Q4r ok R t) c = Q4e R c := by
 unfold Q4r;split
 ·rw [Qbz, if_neg (fun e => h e.2.symm)]
 rw [Qbu, if_neg (fun e => h e.2.symm)]
theorem Qn3 (ok : List UInt8 → Bool) {R S : Reg} (t : List UInt8 × List UInt8 × Int) (h : Q4e R t.1 = Q4e S t.1) : Q4e (Q4r ok R t) t.1 = Q4e (Q4r ok S t) t.1 := by
 unfold Q4r;split
 ·rw [Qbz, Qbz, h]
 rw [Qbu, Qbu, h]
theorem Qby (ok : List UInt8 → Bool) (c : List UInt8) : ∀ (l : List (List UInt8 × List UInt8 × Int)) (R S : Reg), Q4e R c = Q4e S c →
  Q4e (l.foldl (Q4r ok) R) c = Q4e ((l.filter fun t => t.1 == c).foldl (Q4r ok) S) c
 | [], R, S, h => h
 | t :: l, R, S, h => by
  by_cases ht : t.1 = c
  ·rw [Bc (by simpa using ht)];subst ht;exact Qby ok t.1 l _ _ (Qn3 ok t h)
  rw [Bd (by simpa using ht)];exact Qby ok c l _ _ (by rw [Qib ok R t c ht]; exact h)
end
end Go.Av
