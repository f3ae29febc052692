/- Part of the proof of FromsnApart: for every input the law returns true; no condition. -/
import Derived.Test.YtjhombimklaciaaGreatDoorAvOwn
import Derived.Test.YtjhombimklaciaaGreatDoorSeat1
import Derived.Test.YtjhombimklaciaaGreatDoorLiftF2
import Derived.Test.YtjhombimklaciaaGreatDoorPlainb
import Derived.Test.YtjhombimklaciaaGreatDoorPlain
import Derived.Test.YtjhombimklaciaaGreatDoorRegC
open Go.IntKind (wrap)
namespace Go.Av
noncomputable section
section
variable {R A S T : Type}
def Tot (f : Nat → Option R) (r : R) : Prop := ∃ N0, ∀ N, N0 ≤ N → f N = some r
def TotP (f : Nat → Option R) (Q : R → Prop) : Prop := ∃ r, Q r ∧ Tot f r
theorem Tot.of {f : Nat → Option R} {r : R} (h : ∀ N, f N = some r) : Tot f r := ⟨0, fun N _ => h N⟩
theorem Tot.ret (r : R) : Tot (fun _ => some r) r := .of fun _ => rfl
theorem Tot.bind {f : Nat → Option A} {g : Nat → A → Option R} {v : A} {r : R} (h1 : Tot f v) (h2 : Tot (fun N => g N v) r) : Tot (fun N => (f N).bind (g N)) r := by
 obtain ⟨a, ha⟩ := h1;obtain ⟨b, hb⟩ := h2;exact ⟨max a b, fun N hN => by show (f N).bind (g N) = _; rw [ha N (by omega)]; exact hb N (by omega)⟩
theorem TotP.of {f : Nat → Option R} {r : R} {Q : R → Prop} (hq : Q r) (h : Tot f r) : TotP f Q := ⟨r, hq, h⟩
theorem TotP.ret {r : R} {Q : R → Prop} (h : Q r) : TotP (fun _ => some r) Q := ⟨r, h, .ret r⟩
theorem TotP.mono {f : Nat → Option R} {Q Q' : R → Prop} (h : TotP f Q) (hq : ∀ r, Q r → Q' r) : TotP f Q' := by
 obtain ⟨r, h1, h2⟩ := h; exact ⟨r, hq r h1, h2⟩
theorem TotP.tot {f : Nat → Option R} {r : R} (h : TotP f (· = r)) : Tot f r := by obtain ⟨x, rfl, h2⟩ := h; exact h2
theorem TotP.bind {f : Nat → Option A} {g : Nat → A → Option R} {V : A → Prop} {Q : R → Prop} (h1 : TotP f V) (h2 : ∀ v, V v → TotP (fun N => g N v) Q) : TotP (fun N => (f N).bind (g N)) Q := by
 obtain ⟨v, hv, t⟩ := h1;obtain ⟨r, hr, u⟩ := h2 v hv;exact ⟨r, hr, t.bind u⟩
theorem TotP.bindE {f : Nat → Option A} {g : Nat → A → Option R} {v : A} {Q : R → Prop} (h1 : Tot f v) (h2 : TotP (fun N => g N v) Q) : TotP (fun N => (f N).bind (g N)) Q := by
 obtain ⟨r, hr, u⟩ := h2;exact ⟨r, hr, h1.bind u⟩
theorem TotP.cond {b : Bool} {f g : Nat → Option R} {Q : R → Prop} (h1 : b = true → TotP f Q) (h2 : b = false → TotP g Q) : TotP (fun N => cond b (f N) (g N)) Q := by
 cases b
 ·exact h2 rfl
 exact h1 rfl
theorem TotP.chk {b : Bool} {f : Nat → Option R} {Q : R → Prop} (hb : b = true) (h : TotP f Q) : TotP (fun N => _root_.cond b (f N) none) Q := by subst hb; exact h
theorem TotP.idx {l : List T} {i : Int} {y : T} {g : Nat → T → Option R} {Q : R → Prop} (h : idx l i = some y) (h2 : TotP (fun N => g N y) Q) : TotP (fun N => (Go.Av.idx l i).bind (g N)) Q :=
 .bindE (.of fun _ => h) h2
def Stp (L : Nat → Nat → S → Option R) (P : S → Prop) (Q : R → Prop) (f : Nat → Nat → Option R) : Prop :=
 (∃ r N0, Q r ∧ ∀ N n, N0 ≤ N → f N n = some r) ∨ ∃ s N0, P s ∧ ∀ N n, N0 ≤ N → f N n = L N n s
section
variable {L : Nat → Nat → S → Option R} {P : S → Prop} {Q : R → Prop}
theorem Stp.fin {f : Nat → Option R} (h : TotP f Q) : Stp L P Q (fun N _ => f N) := by
 obtain ⟨r, h1, N0, h2⟩ := h; exact .inl ⟨r, N0, h1, fun N _ hN => h2 N hN⟩
theorem Stp.ret {r : R} (h : Q r) : Stp L P Q (fun _ _ => some r) := .inl ⟨r, 0, h, fun _ _ _ => rfl⟩
theorem Stp.go (s : S) (h : P s) : Stp L P Q (fun N n => L N n s) := .inr ⟨s, 0, h, fun _ _ _ => rfl⟩
theorem Stp.bind {f : Nat → Option A} {g : Nat → Nat → A → Option R} {V : A → Prop} (h1 : TotP f V) (h2 : ∀ v, V v → Stp L P Q (fun N n => g N n v)) : Stp L P Q (fun N n => (f N).bind (g N n)) := by
 obtain ⟨v, hv, a, ha⟩ := h1
 rcases h2 v hv with ⟨r, b, hr, hb⟩ | ⟨s, b, hs, hb⟩
 ·exact .inl ⟨r, max a b, hr, fun N n hN => by show (f N).bind _ = _; rw [ha N (by omega)]; exact hb N n (by omega)⟩
 exact .inr ⟨s, max a b, hs, fun N n hN => by show (f N).bind _ = _; rw [ha N (by omega)]; exact hb N n (by omega)⟩
theorem Stp.idx {l : List T} {i : Int} {y : T} {g : Nat → Nat → T → Option R} (h : idx l i = some y) (h2 : Stp L P Q (fun N n => g N n y)) : Stp L P Q (fun N n => (Go.Av.idx l i).bind (g N n)) :=
 .bind (f := fun _ => Go.Av.idx l i) (V := (· = y)) ⟨y, rfl, .of fun _ => h⟩ (fun v hv => by subst hv; exact h2)
theorem Stp.cond {b : Bool} {f g : Nat → Nat → Option R} (h1 : b = true → Stp L P Q f) (h2 : b = false → Stp L P Q g) : Stp L P Q (fun N n => cond b (f N n) (g N n)) := by
 cases b
 ·exact h2 rfl
 exact h1 rfl
theorem Stp.chk {b : Bool} {f : Nat → Nat → Option R} (hb : b = true) (h : Stp L P Q f) : Stp L P Q (fun N n => _root_.cond b (f N n) none) := by subst hb; exact h
theorem Q60 (inv : S → Prop) (μ : S → Nat) (Qu : ∀ s, inv s → Stp L (fun s' => inv s' ∧ μ s' < μ s) Q (fun N n => L N (n + 1) s)) (s : S) (h : inv s) : TotP (fun N => L N N s) Q := by
 have key : ∀ (m : Nat) (s : S), μ s < m → inv s → ∃ r N0, Q r ∧ ∀ N n, N0 ≤ N → N0 ≤ n → L N n s = some r := by
  intro m
  induction m with
  | zero => intro s h; omega
  | succ m ih =>
   intro s hm hi
   rcases Qu s hi with ⟨r, N0, hr, hL⟩ | ⟨s', N0, ⟨h1, h2⟩, hL⟩
   ·refine ⟨r, N0 + 1, hr, fun N n h1 h2 => ?_⟩;obtain ⟨k, rfl⟩ : ∃ k, n = k + 1 := ⟨n - 1, by omega⟩;exact hL N k (by omega)
   obtain ⟨r, M0, hr, hM⟩ := ih s' (by omega) h1;refine ⟨r, max N0 M0 + 1, hr, fun N n h1 h2 => ?_⟩;obtain ⟨k, rfl⟩ : ∃ k, n = k + 1 := ⟨n - 1, by omega⟩;exact (hL N k (by omega)).trans (hM N k (by omega) (by omega))
 obtain ⟨r, N0, hr, hL⟩ := key (μ s + 1) s (by omega) h;exact ⟨r, hr, N0, fun N hN => hL N N hN hN⟩
end
theorem Q4h {L : Nat → Nat → Int → Option R} {Q : R → Prop} (m : Nat) (J : Nat → Prop) (Qu : ∀ i, i < m → J i → Stp L (fun s => s = ((i + 1 : Nat) : Int) ∧ J (i + 1)) Q (fun N n => L N (n + 1) (i : Int)))
  (fin : J m → Stp L (fun _ => False) Q (fun N n => L N (n + 1) (m : Int))) (h0 : J 0) : TotP (fun N => L N N 0) Q := by
 refine Q60 (S := Int) (fun s => ∃ i : Nat, s = (i : Int) ∧ i ≤ m ∧ J i) (fun s => m - s.toNat) ?_ 0 ⟨0, rfl, Mn _, h0⟩
 rintro s ⟨i, rfl, hi, hj⟩
 by_cases h : i < m
 ·rcases Qu i h hj with ⟨r, N0, hr, hL⟩ | ⟨s', N0, ⟨rfl, h2⟩, hL⟩
  ·exact .inl ⟨r, N0, hr, hL⟩
  exact .inr ⟨_, N0, ⟨⟨i + 1, rfl, h, h2⟩, by simp only [Md]; omega⟩, hL⟩
 have : i = m := by omega
 subst this
 rcases fin hj with ⟨r, N0, hr, hL⟩ | ⟨s', N0, h2, hL⟩
 ·exact .inl ⟨r, N0, hr, hL⟩
 exact h2.elim
end
theorem Z2 (x y : Int) : Q7 .lss x y = decide (x < y) := rfl
theorem Q02 (x y : Int) : Q7 .leq x y = decide (x ≤ y) := rfl
theorem Q0x (x y : Int) : Q7 .gtr x y = decide (x > y) := rfl
theorem Q3k (x y : Int) : Q7 .geq x y = decide (x ≥ y) := rfl
theorem Jn (x y : Int) : Q7 .eql x y = decide (x = y) := by unfold Q7; by_cases h : x = y <;> simp [h]
theorem Q03 (x y : Int) : Q7 .neq x y = decide (x ≠ y) := by unfold Q7; by_cases h : x = y <;> simp [h]
theorem w64 (x : Int) (h : -9223372036854775808 ≤ x ∧ x ≤ 9223372036854775807) : wrap .i64 x = x := IntWalk.i64_in x h
theorem Z8 {T : Type} {l : List T} {i : Nat} (h : i < l.length) : idx l (i : Int) = some l[i] := Lc h
theorem Q5b : maxLen ≤ 9223372036854775807 := by unfold maxLen; decide
end
end Go.Av
namespace Go.Av
noncomputable section
theorem Gh {T : Type} (c : T → List PV) (l : List T) : (Qd c l).length = l.length := by simp [Qd]
def few (m : Nat) (o : Q2) : Prop := o.L.length ≤ m ∧ ∀ e ∈ o.L, e.l.length ≤ m
theorem Qaj {m : Nat} (hm : m ≤ 1000) {o : Q2} (ho : few m o) (c : List UInt8) : TotP (fun N => Zg N o c) (fun r => r.1.length ≤ m ∧ r.2 = o) := by
 unfold Zg;refine Q4h (L := fun N n s => Qv N o c n s) o.L.length (fun _ => True) (fun i hi _ => ?_) (fun _ => ?_) trivial
 ·have hy : o.L[i].l.length ≤ m := ho.2 _ (Mv hi);have := ho.1;show Stp _ _ _ (fun N n => cond (Q7 .lss (i : Int) ((Qd Q1.cells o.L).length : Int)) _ _);rw [Gh, Z2];refine Stp.cond (fun _ => ?_) (fun h => absurd (of_decide_eq_false h) (by omega));refine Stp.idx (Z8 hi) ?_;refine Stp.cond (fun _ => ?_) (fun _ => ?_)
  ·refine Stp.idx (Z8 hi) ?_;refine Stp.cond (fun _ => Stp.ret ⟨Mn _, rfl⟩) (fun _ => ?_);refine Stp.chk (by rw [Gh, Lu]; omega) ?_;exact Stp.ret ⟨by simpa using hy, rfl⟩
  rw [w64 _ (by omega)];exact Stp.go (L := fun N n s => Qv N o c n s) _ ⟨by omega, trivial⟩
 show Stp _ _ _ (fun N n => cond (Q7 .lss ((o.L.length : Nat) : Int) ((Qd Q1.cells o.L).length : Int)) _ _);rw [Gh, Z2];refine Stp.cond (fun h => absurd (of_decide_eq_true h) (by omega)) (fun _ => Stp.ret ⟨Mn _, rfl⟩)
theorem Qe3 {m : Nat} (hm : m ≤ 1000) {l : List Z4} (hl : l.length ≤ m) (t : Z4) : TotP (fun N => Xg N l t) (fun r => r.length ≤ m + 1) := by
 unfold Xg;refine Q60 (S := Bool × Int × List Z4) (L := fun N n s => Z3 N l t n s.1 s.2.1 s.2.2) (fun s => ∃ i : Nat, s.2.1 = (i : Int) ∧ i ≤ l.length ∧ s.2.2.length ≤ i + (if s.1 = true then 1 else 0)) (fun s => l.length - s.2.1.toNat) ?_ (false, 0, []) ⟨0, rfl, Mn _, by simp⟩
 rintro ⟨b, j, out⟩ ⟨i, hj, hi, ho⟩
 simp only at hj hi ho
 subst hj;show Stp _ _ _ (fun N n => cond (Q7 .lss (i : Int) ((Qd Z4.cells l).length : Int)) _ _);rw [Gh, Z2];dsimp only
 have hob : out.length ≤ i + 1 := by revert ho; split <;> omega
 refine Stp.cond (fun h => ?_) (fun _ => ?_)
 ·have hlt : i < l.length := by have := of_decide_eq_true h; omega
  have ew : wrap .i64 ((i : Int) + 1) = ((i + 1 : Nat) : Int) := by rw [w64 _ (by omega)]; omega
  rw [ew];refine Stp.cond (fun hb => ?_) (fun hb => ?_)
  ·have hb : b = false := by simpa using hb
   subst hb
   have ho : out.length ≤ i := by simpa using ho
   refine Stp.idx (Z8 hlt) ?_;refine Stp.cond (fun _ => ?_) (fun _ => ?_)
   ·refine Stp.chk (by rw [Lu]; omega) ?_;refine Stp.idx (Z8 hlt) ?_;refine Stp.chk (by rw [Lu]; omega) ?_;exact Stp.go (L := fun N n s => Z3 N l t n s.1 s.2.1 s.2.2) (true, ((i + 1 : Nat) : Int), (out ++ [t]) ++ [l[i]]) ⟨⟨i + 1, rfl, hlt, by simp; omega⟩, by simp only [Md]; omega⟩
   refine Stp.idx (Z8 hlt) ?_;refine Stp.chk (by rw [Lu]; omega) ?_;exact Stp.go (L := fun N n s => Z3 N l t n s.1 s.2.1 s.2.2) (false, ((i + 1 : Nat) : Int), out ++ [l[i]]) ⟨⟨i + 1, rfl, hlt, by simp; omega⟩, by simp only [Md]; omega⟩
  refine Stp.idx (Z8 hlt) ?_;refine Stp.chk (by rw [Lu]; omega) ?_;exact Stp.go (L := fun N n s => Z3 N l t n s.1 s.2.1 s.2.2) (b, ((i + 1 : Nat) : Int), out ++ [l[i]]) ⟨⟨i + 1, rfl, hlt, by simp only [Lr, Bl]; omega⟩, by simp only [Md]; omega⟩
 refine Stp.cond (fun hb => ?_) (fun _ => Stp.ret (by omega))
 have hb : b = false := by simpa using hb
 subst hb
 have ho : out.length ≤ i := by simpa using ho
 refine Stp.chk (by rw [Lu]; omega) ?_;exact Stp.ret (by simp; omega)
theorem Qcx {m : Nat} (hm : m ≤ 1000) {o : Q2} (ho : few m o) (c : List UInt8) {l : List Z4} (hl : l.length ≤ m + 1) : TotP (fun N => Zp N o c l) (fun r => few (m + 1) r.2) := by
 unfold Zp;refine Q60 (S := Bool × Int × List Q1) (L := fun N n s => Q5 N o c l n s.1 s.2.1 s.2.2)
  (fun s => ∃ i : Nat, s.2.1 = (i : Int) ∧ i ≤ o.L.length ∧ s.2.2.length ≤ i + (if s.1 = true then 1 else 0) ∧ ∀ e ∈ s.2.2, e.l.length ≤ m + 1) (fun s => o.L.length - s.2.1.toNat) ?_ (_, 0, []) ⟨0, rfl, Mn _, by simp, fun e h => by cases h⟩
 rintro ⟨b, j, out⟩ ⟨i, hj, hi, hq, hx⟩
 simp only at hj hi hq hx
 subst hj;have h1 := ho.1;show Stp _ _ _ (fun N n => cond (Q7 .lss (i : Int) ((Qd Q1.cells o.L).length : Int)) _ _);rw [Gh, Z2];dsimp only
 have hob : out.length ≤ i + 1 := by revert hq; split <;> omega
 have addx : ∀ (l1 : List Q1) (e : Q1), (∀ e ∈ l1, e.l.length ≤ m + 1) → e.l.length ≤ m + 1 → ∀ x ∈ l1 ++ [e], x.l.length ≤ m + 1 := fun l1 e h1 h2 x hx => by
  rcases Mf.1 hx with h | h
  ·exact h1 x h
  simp at h; subst h; exact h2
 refine Stp.cond (fun h => ?_) (fun _ => ?_)
 ·have hlt : i < o.L.length := by have := of_decide_eq_true h; omega
  have hy : o.L[i].l.length ≤ m + 1 := Nc (ho.2 _ (Mv hlt))
  have ew : wrap .i64 ((i : Int) + 1) = ((i + 1 : Nat) : Int) := by rw [w64 _ (by omega)]; omega
  rw [ew];refine Stp.idx (Z8 hlt) ?_
  have go : ∀ (b' : Bool) (out' : List Q1), out'.length ≤ i + 1 + (if b' = true then 1 else 0) → (∀ e ∈ out', e.l.length ≤ m + 1) → Stp (fun N n (s : Bool × Int × List Q1) => Q5 N o c l n s.1 s.2.1 s.2.2)
    (fun s' => (∃ i : Nat, s'.2.1 = (i : Int) ∧ i ≤ o.L.length ∧ s'.2.2.length ≤ i + (if s'.1 = true then 1 else 0) ∧ ∀ e ∈ s'.2.2, e.l.length ≤ m + 1) ∧ o.L.length - s'.2.1.toNat < o.L.length - (i : Int).toNat) (fun r => few (m + 1) r.2)
    (fun N n => Q5 N o c l n b' ((i + 1 : Nat) : Int) out') := fun b' out' h2 h3 =>
   Stp.go (L := fun N n (s : Bool × Int × List Q1) => Q5 N o c l n s.1 s.2.1 s.2.2) (b', ((i + 1 : Nat) : Int), out') ⟨⟨i + 1, rfl, hlt, h2, h3⟩, by simp only [Md]; omega⟩
  have keep : ∀ b', b' = b → Stp (fun N n (s : Bool × Int × List Q1) => Q5 N o c l n s.1 s.2.1 s.2.2)
    (fun s' => (∃ i : Nat, s'.2.1 = (i : Int) ∧ i ≤ o.L.length ∧ s'.2.2.length ≤ i + (if s'.1 = true then 1 else 0) ∧ ∀ e ∈ s'.2.2, e.l.length ≤ m + 1) ∧ o.L.length - s'.2.1.toNat < o.L.length - (i : Int).toNat) (fun r => few (m + 1) r.2)
    (fun N n => cond (Jx .neq o.L[i].client c) (cond (Nat.ble ((out.length + 1 + 4096) * 40) 17592186044416) (Q5 N o c l n b' ((i + 1 : Nat) : Int) (out ++ [o.L[i]])) none) (Q5 N o c l n b' ((i + 1 : Nat) : Int) out)) := fun b' hb' => by
   subst hb';refine Stp.cond (fun _ => ?_) (fun _ => go _ _ (by omega) hx);refine Stp.chk (by rw [Lu]; omega) ?_;exact go _ _ (by simp only [Lr, Bl]; omega) (addx _ _ hx hy)
  refine Stp.cond (fun hb => ?_) (fun _ => keep b rfl);refine Stp.cond (fun _ => ?_) (fun _ => keep b rfl)
  have hb : b = false := by simpa using hb
  subst hb
  have hq : out.length ≤ i := by simpa using hq
  refine Stp.chk (by rw [Lu]; omega) ?_;refine Stp.cond (fun _ => ?_) (fun _ => ?_)
  ·refine Stp.chk (by rw [Lu]; omega) ?_;exact go _ _ (by simp; omega) (addx _ _ (addx _ _ hx hl) hy)
  exact go _ _ (by simp; omega) (addx _ _ hx hl)
 refine Stp.cond (fun hb => ?_) (fun _ => Stp.ret ⟨by show out.length ≤ _; omega, hx⟩)
 have hb : b = false := by simpa using hb
 subst hb
 have hq : out.length ≤ i := by simpa using hq
 refine Stp.chk (by rw [Lu]; omega) ?_;exact Stp.ret ⟨by show (out ++ [_]).length ≤ _; simp; omega, addx _ _ hx hl⟩
theorem Qnj {m : Nat} (hm : m ≤ 1000) (c n : List UInt8) {v : List Z4 × Q2} (hv : v.1.length ≤ m) (ho : few m v.2) :
  TotP (fun N => Qc N c n v N 1 0) (fun r => few (m + 1) r.2) := by
 refine Q60 (S := Int × Int) (L := fun N k s => Qc N c n v k s.1 s.2) (fun s => ∃ i j : Nat, s.2 = (i : Int) ∧ i ≤ v.1.length ∧ s.1 = (j : Int) ∧ j ≤ i + 1) (fun s => v.1.length - s.2.toNat) ?_ (1, 0) ⟨0, 1, rfl, Mn _, rfl, Ln _⟩
 rintro ⟨f, k⟩ ⟨i, j, hk, hi, hf, hj⟩
 simp only at hk hf
 subst hk hf;have weak : few (m + 1) v.2 := ⟨Nc ho.1, fun e he => Nc (ho.2 e he)⟩;show Stp _ _ _ (fun N n' => cond (Q7 .lss (i : Int) ((Qd Z4.cells v.1).length : Int)) _ _);rw [Gh, Z2];dsimp only;refine Stp.cond (fun h => ?_) (fun _ => ?_)
 ·have hlt : i < v.1.length := by have := of_decide_eq_true h; omega
  have ew : wrap .i64 ((i : Int) + 1) = ((i + 1 : Nat) : Int) := by rw [w64 _ (by omega)]; omega
  have ej : wrap .i64 ((j : Int) + 1) = ((j + 1 : Nat) : Int) := by rw [w64 _ (by omega)]; omega
  rw [ew, ej];refine Stp.idx (Z8 hlt) ?_;refine Stp.cond (fun _ => ?_) (fun _ => ?_)
  ·refine Stp.idx (Z8 hlt) ?_;exact Stp.ret weak
  refine Stp.idx (Z8 hlt) ?_;refine Stp.cond (fun _ => ?_) (fun _ => ?_)
  ·exact Stp.go (L := fun N k (s : Int × Int) => Qc N c n v k s.1 s.2) (((j + 1 : Nat) : Int), ((i + 1 : Nat) : Int)) ⟨⟨i + 1, j + 1, rfl, hlt, rfl, by omega⟩, by simp only [Md]; omega⟩
  exact Stp.go (L := fun N k (s : Int × Int) => Qc N c n v k s.1 s.2) ((j : Int), ((i + 1 : Nat) : Int)) ⟨⟨i + 1, j, rfl, hlt, rfl, by omega⟩, by simp only [Md]; omega⟩
 refine Stp.cond (fun _ => Stp.ret weak) (fun _ => ?_);refine Stp.bind (Qe3 hm hv _) (fun w hw => ?_);refine Stp.bind (Qcx hm ho c hw) (fun u hu => ?_);exact Stp.ret hu
end
end Go.Av
namespace Go.Av
noncomputable section
def at8 (s : List UInt8) (i : Nat) : Nat := (s.getD i 0).toNat
theorem Q4d (s : List UInt8) (i : Nat) : at8 s i < 256 := De _
theorem Q4k {s : List UInt8} {i : Nat} (h : i < s.length) : at8 s i = (s[i]).toNat := by simp [at8, h]
def goes (s : List UInt8) (i : Nat) : Prop := i < s.length ∧ 128 ≤ at8 s i ∧ at8 s i < 192
instance (s : List UInt8) (i : Nat) : Decidable (goes s i) := inferInstanceAs (Decidable (_ ∧ _))
def Q6b (c : Nat) : Prop := ¬ (55296 ≤ c ∧ c ≤ 57343) ∧ c ≤ 1114111
instance (c : Nat) : Decidable (Q6b c) := inferInstanceAs (Decidable (_ ∧ _))
def Q2s (s : List UInt8) (i : Nat) : Nat × Nat :=
 if at8 s i < 128 then (at8 s i, 1)
 else if 192 ≤ at8 s i ∧ at8 s i < 224 ∧ goes s (i + 1) ∧ 128 ≤ 64 * (at8 s i - 192) + (at8 s (i + 1) - 128) then (64 * (at8 s i - 192) + (at8 s (i + 1) - 128), 2)
 else if 224 ≤ at8 s i ∧ at8 s i < 240 ∧ goes s (i + 1) ∧ goes s (i + 2) ∧ 2048 ≤ 64 * (64 * (at8 s i - 224) + (at8 s (i + 1) - 128)) + (at8 s (i + 2) - 128) ∧ Q6b (64 * (64 * (at8 s i - 224) + (at8 s (i + 1) - 128)) + (at8 s (i + 2) - 128)) then
  (64 * (64 * (at8 s i - 224) + (at8 s (i + 1) - 128)) + (at8 s (i + 2) - 128), 3)
 else if 240 ≤ at8 s i ∧ at8 s i < 248 ∧ goes s (i + 1) ∧ goes s (i + 2) ∧ goes s (i + 3) ∧ 65536 ≤ 64 * (64 * (64 * (at8 s i - 240) + (at8 s (i + 1) - 128)) + (at8 s (i + 2) - 128)) + (at8 s (i + 3) - 128) ∧
   Q6b (64 * (64 * (64 * (at8 s i - 240) + (at8 s (i + 1) - 128)) + (at8 s (i + 2) - 128)) + (at8 s (i + 3) - 128)) then
  (64 * (64 * (64 * (at8 s i - 240) + (at8 s (i + 1) - 128)) + (at8 s (i + 2) - 128)) + (at8 s (i + 3) - 128), 4)
 else (65533, 1)
theorem Qe1 (c : Nat) : Utf8.valid (c : Int) = true ↔ Q6b c := by
 unfold Utf8.valid Q6b;simp only [Lb, Nm, Nv, decide_eq_true_eq, decide_eq_false_iff_not];omega
theorem Qnn (a b c d : Nat) (G1 G2 G3 : Prop) [Decidable G1] [Decidable G2] [Decidable G3] (h0 : a < 256) (q1 : G1 → 128 ≤ b ∧ b < 192) (q2 : G2 → 128 ≤ c ∧ c < 192) (q3 : G3 → 128 ≤ d ∧ d < 192) :
  (if a < 128 then (a, 1)
   else if (a / 32 == 6 && decide G1) = true then (if a % 32 * 64 + b % 64 ≥ 128 then (a % 32 * 64 + b % 64, 2) else (65533, 1))
   else if (a / 16 == 14 && decide G1 && decide G2) = true then (if (decide (a % 16 * 4096 + b % 64 * 64 + c % 64 ≥ 2048) && Utf8.valid ((a % 16 * 4096 + b % 64 * 64 + c % 64 : Nat) : Int)) = true then (a % 16 * 4096 + b % 64 * 64 + c % 64, 3) else (65533, 1))
   else if (a / 8 == 30 && decide G1 && decide G2 && decide G3) = true then (if (decide (a % 8 * 262144 + b % 64 * 4096 + c % 64 * 64 + d % 64 ≥ 65536) && Utf8.valid ((a % 8 * 262144 + b % 64 * 4096 + c % 64 * 64 + d % 64 : Nat) : Int)) = true then (a % 8 * 262144 + b % 64 * 4096 + c % 64 * 64 + d % 64, 4) else (65533, 1))
   else (65533, 1)) =
  (if a < 128 then (a, 1)
   else if 192 ≤ a ∧ a < 224 ∧ G1 ∧ 128 ≤ 64 * (a - 192) + (b - 128) then (64 * (a - 192) + (b - 128), 2)
   else if 224 ≤ a ∧ a < 240 ∧ G1 ∧ G2 ∧ 2048 ≤ 64 * (64 * (a - 224) + (b - 128)) + (c - 128) ∧ Q6b (64 * (64 * (a - 224) + (b - 128)) + (c - 128)) then (64 * (64 * (a - 224) + (b - 128)) + (c - 128), 3)
   else if 240 ≤ a ∧ a < 248 ∧ G1 ∧ G2 ∧ G3 ∧ 65536 ≤ 64 * (64 * (64 * (a - 240) + (b - 128)) + (c - 128)) + (d - 128) ∧ Q6b (64 * (64 * (64 * (a - 240) + (b - 128)) + (c - 128)) + (d - 128)) then
    (64 * (64 * (64 * (a - 240) + (b - 128)) + (c - 128)) + (d - 128), 4)
   else (65533, 1)) := by
 simp only [Lb, decide_eq_true_eq, beq_iff_eq, Qe1, ge_iff_le];have e2 : ∀ x, Q6b x = (¬ (55296 ≤ x ∧ x ≤ 57343) ∧ x ≤ 1114111) := fun x => rfl
 by_cases c1 : a < 128
 ·rw [if_pos c1, if_pos c1]
 rw [if_neg c1, if_neg c1]
 by_cases c2 : a < 192
 ·rw [if_neg (by omega), if_neg (by omega), if_neg (by omega), if_neg (by omega), if_neg (by omega), if_neg (by omega)]
 by_cases c3 : a < 224
 ·by_cases g1 : G1
  ·have := q1 g1
   have e : a % 32 * 64 + b % 64 = 64 * (a - 192) + (b - 128) := by omega
   rw [if_pos ⟨by omega, g1⟩, e]
   by_cases c4 : 128 ≤ 64 * (a - 192) + (b - 128)
   ·rw [if_pos c4, if_pos ⟨by omega, c3, g1, c4⟩]
   rw [if_neg c4, if_neg (fun h => c4 h.2.2.2), if_neg (by omega), if_neg (by omega)]
  rw [if_neg (fun h => g1 h.2), if_neg (by omega), if_neg (by omega), if_neg (fun h => g1 h.2.2.1), if_neg (by omega), if_neg (by omega)]
 rw [if_neg (by omega), if_neg (c := 192 ≤ a ∧ _) (by omega)]
 by_cases c5 : a < 240
 ·by_cases g : G1 ∧ G2
  ·have := q1 g.1;have := q2 g.2
   have e : a % 16 * 4096 + b % 64 * 64 + c % 64 = 64 * (64 * (a - 224) + (b - 128)) + (c - 128) := by omega
   rw [if_pos ⟨⟨by omega, g.1⟩, g.2⟩, e]
   by_cases c4 : 2048 ≤ 64 * (64 * (a - 224) + (b - 128)) + (c - 128) ∧ Q6b (64 * (64 * (a - 224) + (b - 128)) + (c - 128))
   ·rw [if_pos c4, if_pos ⟨by omega, c5, g.1, g.2, c4⟩]
   rw [if_neg c4, if_neg (fun h => c4 h.2.2.2.2), if_neg (by omega)]
  rw [if_neg (fun h => g ⟨h.1.2, h.2⟩), if_neg (by omega), if_neg (fun h => g ⟨h.2.2.1, h.2.2.2.1⟩), if_neg (by omega)]
 rw [if_neg (by omega), if_neg (c := 224 ≤ a ∧ _) (by omega)]
 by_cases c6 : a < 248
 ·by_cases g : G1 ∧ G2 ∧ G3
  ·have := q1 g.1;have := q2 g.2.1;have := q3 g.2.2
   have e : a % 8 * 262144 + b % 64 * 4096 + c % 64 * 64 + d % 64 = 64 * (64 * (64 * (a - 240) + (b - 128)) + (c - 128)) + (d - 128) := by omega
   rw [if_pos ⟨⟨⟨by omega, g.1⟩, g.2.1⟩, g.2.2⟩, e]
   by_cases c4 : 65536 ≤ 64 * (64 * (64 * (a - 240) + (b - 128)) + (c - 128)) + (d - 128) ∧ Q6b (64 * (64 * (64 * (a - 240) + (b - 128)) + (c - 128)) + (d - 128))
   ·rw [if_pos c4, if_pos ⟨by omega, c6, g.1, g.2.1, g.2.2, c4⟩]
   rw [if_neg c4, if_neg (fun h => c4 h.2.2.2.2.2)]
  rw [if_neg (fun h => g ⟨h.1.1.2, h.1.2, h.2⟩), if_neg (fun h => g ⟨h.2.2.1, h.2.2.2.1, h.2.2.2.2.1⟩)]
 rw [if_neg (by omega), if_neg (by omega)]
theorem Qt3 (s : List UInt8) (j : Nat) : (decide (j < s.length) && (at8 s j / 64 == 2)) = decide (goes s j) := by
 have hk := Q4d s j
 by_cases hg : goes s j
 ·have h4 : at8 s j / 64 = 2 := by have := hg.2; omega
  simp [hg, hg.1, h4]
 simp only [hg, decide_false, Bool.and_eq_false_iff, decide_eq_false_iff_not]
 by_cases hl : j < s.length
 ·right;simp only [beq_eq_false_iff_ne, ne_eq]
  intro h4;exact hg ⟨hl, by omega, by omega⟩
 exact .inl hl
theorem Qhp (s : List UInt8) (i : Nat) : Q6c s i = Q2s s i := by
 have u : ∀ j, (s.getD j 0).toNat = at8 s j := fun _ => rfl;have := Qnn (at8 s i) (at8 s (i + 1)) (at8 s (i + 2)) (at8 s (i + 3)) (goes s (i + 1)) (goes s (i + 2)) (goes s (i + 3)) (Q4d _ _) (fun h => h.2) (fun h => h.2) (fun h => h.2);unfold Q2s;rw [← this];unfold Q6c;simp only [Nn, u, Qt3];rfl
theorem Qh8 (s : List UInt8) (i : Nat) (h : i < s.length) : 1 ≤ (Q2s s i).2 ∧ i + (Q2s s i).2 ≤ s.length ∧ ((Q2s s i).1 < 128 ↔ at8 s i < 128) ∧ (at8 s i < 128 → (Q2s s i).1 = at8 s i ∧ (Q2s s i).2 = 1) ∧
  (∀ k, 1 ≤ k → k < (Q2s s i).2 → 128 ≤ at8 s (i + k)) ∧ Q6b (Q2s s i).1 := by
 have h0 := Q4d s i;unfold Q2s;split
 ·refine ⟨by simp, by simp; omega, by simp, fun _ => ⟨rfl, rfl⟩, fun k h1 h2 => by simp at h2; omega, by unfold Q6b; simp; omega⟩
 split
 ·rename_i h1 h2;obtain ⟨_, _, g1, h3⟩ := h2;refine ⟨by simp, by simp; have := g1.1; omega, by simp; omega, fun h => by omega, fun k h4 h5 => ?_, by unfold Q6b; simp only; have := g1.2; omega⟩
  have : k = 1 := by simp at h5; omega
  subst this; exact g1.2.1
 split
 ·rename_i h1 h2 h3;obtain ⟨_, _, g1, g2, h3, h6⟩ := h3;refine ⟨by simp, by simp; have := g2.1; omega, by simp; omega, fun h => by omega, fun k h4 h5 => ?_, h6⟩
  have : k = 1 ∨ k = 2 := by simp at h5; omega
  rcases this with rfl | rfl
  ·exact g1.2.1
  exact g2.2.1
 split
 ·rename_i h1 h2 h3 h4;obtain ⟨_, _, g1, g2, g3, h3, h6⟩ := h4;refine ⟨by simp, by simp; have := g3.1; omega, by simp; omega, fun h => by omega, fun k h4 h5 => ?_, h6⟩
  have : k = 1 ∨ k = 2 ∨ k = 3 := by simp at h5; omega
  rcases this with rfl | rfl | rfl
  ·exact g1.2.1
  ·exact g2.2.1
  exact g3.2.1
 rename_i h1 h2 h3 h4;exact ⟨by simp, by simp; omega, by simp; omega, fun h => by omega, fun k h4 h5 => by simp at h5; omega, by unfold Q6b; simp⟩
def Qjh (s : List UInt8) (i : Nat) : Prop := Q2s s i = (65533, 1)
instance (s : List UInt8) (i : Nat) : Decidable (Qjh s i) := inferInstanceAs (Decidable (_ = _))
def Qes (s : List UInt8) (pos : Nat) : Option Nat :=
 if h : pos < s.length then (if (Q2s s pos).1 = 0 ∨ Qjh s pos then some pos else Qes s (pos + (Q2s s pos).2)) else none
termination_by s.length - pos
decreasing_by have := (Qh8 s pos h).1; omega
end
end Go.Av
namespace Go.Av
noncomputable section
open Go.Proofs
theorem Qrc {b : UInt8} {n : Nat} (h : b.toNat = n) (hn : n < 256) : b = UInt8.ofNat n := by
 apply UInt8.toNat_inj.1; rw [h]; simp [UInt8.toNat_ofNat]; omega
theorem Qju {s : List UInt8} {i : Nat} (hi : i < s.length) (hc : (Q2s s i).1 = 65533) : (3 ≤ (s.drop i).length ∧ (s.drop i).take 3 = [239, 191, 189]) ↔ ¬ Qjh s i := by
 constructor
 ·rintro ⟨h1, h2⟩ hn
  have hl : i + 2 < s.length := by simp at h1; omega
  have g : ∀ k, k < 3 → s[i + k]? = ([239, 191, 189] : List UInt8)[k]? := by
   intro k hk;rw [← h2, Mb, if_pos hk, Mc]
  have a0 : at8 s i = 239 := by have := g 0 (by omega); simp at this; simp [at8, List.getD_eq_getElem?_getD, this]
  have a1 : at8 s (i + 1) = 191 := by have := g 1 (by omega); simp at this; simp [at8, List.getD_eq_getElem?_getD, this]
  have a2 : at8 s (i + 2) = 189 := by have := g 2 (by omega); simp at this; simp [at8, List.getD_eq_getElem?_getD, this]
  have g1 : goes s (i + 1) := ⟨by omega, by omega, by omega⟩;have g2 : goes s (i + 2) := ⟨by omega, by omega, by omega⟩;unfold Qjh Q2s at hn;rw [a0, a1, a2] at hn;simp [g1, g2, Q6b] at hn
 intro hn;have h0 := Q4d s i;unfold Qjh at hn;unfold Q2s at hn hc;split at hn
 ·rename_i h1; rw [if_pos h1] at hc; simp at hc; omega
 rename_i h1; rw [if_neg h1] at hc;split at hn
 ·rename_i h2;rw [if_pos h2] at hc;obtain ⟨_, _, g1, _⟩ := h2;have := g1.2; simp at hc; omega
 rename_i h2; rw [if_neg h2] at hc;split at hn
 ·rename_i h3;rw [if_pos h3] at hc;obtain ⟨_, _, g1, g2, _⟩ := h3;have b1 := g1.2;have b2 := g2.2;have l2 := g2.1
  simp only at hc
  have a0 : at8 s i = 239 := by omega
  have a1 : at8 s (i + 1) = 191 := by omega
  have a2 : at8 s (i + 2) = 189 := by omega
  rw [Q4k (by omega)] at a0 a1 a2;refine ⟨by simp; omega, ?_⟩;apply Ml;intro k;rw [Mb]
  by_cases hk : k < 3
  ·rw [if_pos hk, Mc]
   have : k = 0 ∨ k = 1 ∨ k = 2 := by omega
   rcases this with rfl | rfl | rfl
   ·rw [Nn, Lc (by omega), Qrc a0 (by omega)]; rfl
   ·rw [Lc (by omega), Qrc a1 (by omega)]; rfl
   rw [Lc (by omega), Qrc a2 (by omega)]; rfl
  rw [if_neg hk]; simp; omega
 rename_i h3; rw [if_neg h3] at hc;split at hn
 ·rename_i h4;rw [if_pos h4] at hc;obtain ⟨_, _, g1, g2, g3, h5, h6⟩ := h4
  simp only at hc
  omega
 exact absurd rfl hn
theorem Qmi (N : Nat) (s : List UInt8) : Ud N s = some (decide (3 ≤ s.length ∧ s.take 3 = [239, 191, 189])) := by
 unfold Ud;rw [Q3k]
 by_cases h : 3 ≤ s.length
 ·have h1 : decide ((s.length : Int) ≥ 3) = true := by simp; omega
  have h2 : (Nat.ble 0 3 && Nat.ble 3 s.length) = true := by simp [h]
  rw [h1, h2];simp only [cond_true, Nq, Jx]
  congr 1
  by_cases h3 : s.take 3 = [239, 191, 189] <;> simp [h, h3]
 have h1 : decide ((s.length : Int) ≥ 3) = false := by simp; omega
 rw [h1];simp [h]
def Qrh (o : Option Nat) : Int := match o with
 | some p => p
 | none => -1
theorem Qr0 (s : List UInt8) : Tot (fun N => Q09 N s) (Qrh (Qes s 0)) := by
 refine TotP.tot ?_;show TotP (fun N => Xa N s N 0) _;refine Q60 (L := fun N n (p : Nat) => Xa N s n p) (fun p => Qes s p = Qes s 0) (fun p => s.length - p) (fun p hp => ?_) 0 rfl;show Stp _ _ _ (fun N n => cond (Nat.blt p s.length) _ _);refine Stp.cond (fun h => ?_) (fun h => ?_)
 ·have hl : p < s.length := by simpa [Nat.blt_eq] using h
  rw [Qhp];have hw := Qh8 s p hl
  have hb : Qes s p = (if (Q2s s p).1 = 0 ∨ Qjh s p then some p else Qes s (p + (Q2s s p).2)) := by rw [Qes, dif_pos hl]
  rw [Jn, Jn];refine Stp.cond (fun h0 => ?_) (fun h0 => ?_)
  ·have h0 : (Q2s s p).1 = 0 := by simpa using h0
   refine Stp.ret ?_;rw [← hp, hb, if_pos (.inl h0)]; rfl
  have h0 : (Q2s s p).1 ≠ 0 := by simpa using h0
  refine Stp.cond (fun h1 => ?_) (fun h1 => ?_)
  ·have h1 : (Q2s s p).1 = 65533 := by have := of_decide_eq_true h1; omega
   refine Stp.chk (by simp; omega) ?_;rw [Bz];refine Stp.bind (V := (· = decide (3 ≤ (s.drop p).length ∧ (s.drop p).take 3 = [239, 191, 189]))) ⟨_, rfl, .of fun N => Qmi N _⟩ ?_
   rintro v rfl
   have hwi := Qju hl h1;refine Stp.cond (fun h2 => ?_) (fun h2 => ?_)
   ·have h2 : ¬ (3 ≤ (s.drop p).length ∧ (s.drop p).take 3 = [239, 191, 189]) := by
     have : (!decide (3 ≤ (s.drop p).length ∧ (s.drop p).take 3 = [239, 191, 189])) = true := h2;simpa only [Nv, decide_eq_false_iff_not] using this
    have h3 : Qjh s p := Lq fun h => h2 (hwi.2 h);refine Stp.ret ?_;rw [← hp, hb, if_pos (.inr h3)]; rfl
   have h2 : (3 ≤ (s.drop p).length ∧ (s.drop p).take 3 = [239, 191, 189]) := by
    have : (!decide (3 ≤ (s.drop p).length ∧ (s.drop p).take 3 = [239, 191, 189])) = false := h2;simpa only [Bool.not_eq_false', decide_eq_true_eq] using this
   refine Stp.go (p + (Q2s s p).2) ⟨?_, by have := hw.1; have := hw.2.1; omega⟩;rw [← hp, hb, if_neg]
   rintro (h | h)
   ·exact h0 h
   exact hwi.1 h2 h
  have h1 : (Q2s s p).1 ≠ 65533 := by intro e; rw [e] at h1; simp at h1
  refine Stp.go (p + (Q2s s p).2) ⟨?_, by have := hw.1; have := hw.2.1; omega⟩;rw [← hp, hb, if_neg]
  rintro (h | h)
  ·exact h0 h
  unfold Qjh at h; rw [h] at h1; exact h1 rfl
 have hl : ¬ p < s.length := fun hlt => by
  have h' : Nat.blt p s.length = true := by rw [Bv]; exact hlt
  rw [h'] at h; cases h
 refine Stp.ret ?_;rw [← hp, Qes, dif_neg hl]; rfl
def Q72 (s : List UInt8) : Bool := decide (s.length ≤ 65535) && (Qes s 0).isNone
theorem Qn6 (o : Option Nat) : decide (Qrh o = -1) = o.isNone := by
 cases o with
 | none => rfl
 | some p => simp [Qrh]
theorem Qe4 (s : List UInt8) : Tot (fun N => W9 N s) (Q72 s) := by
 refine TotP.tot ?_;show TotP (fun N => cond (Q7 .leq (s.length : Int) 65535) _ _) _;rw [Q02];refine TotP.cond (fun h => ?_) (fun h => ?_)
 ·have h : s.length ≤ 65535 := by have := of_decide_eq_true h; omega
  refine TotP.bindE (Qr0 s) (.ret ?_);rw [Jn, Qn6]; simp [Q72, h]
 have h : ¬ s.length ≤ 65535 := by have := of_decide_eq_false h; omega
 exact .ret (by simp [Q72, h])
end
end Go.Av
namespace Go.Av
noncomputable section
open Go.Proofs
theorem Qhl (s : List UInt8) : Tot (fun N => Gr N s) (decide (s ≠ []) && Q72 s) := by
 refine TotP.tot ?_;show TotP (fun N => cond (Jx .neq s []) _ _) _
 have e : Jx .neq s [] = decide (s ≠ []) := by cases s <;> rfl
 rw [e];refine TotP.cond (fun h => ?_) (fun h => ?_)
 ·exact .bindE (Qe4 s) (.ret (by rw [h]; rfl))
 exact .ret (by rw [h]; rfl)
theorem Qln (c : UInt8) : ∀ (l : List UInt8) (i : Nat), (0 ≤ Qc5 l c i) ↔ c ∈ l
 | [], i => by simp [Qc5]
 | b :: l, i => by
  unfold Qc5
  by_cases h : b == c
  ·rw [if_pos h]; have := eq_of_beq h; subst this; simp
  rw [if_neg h, Qln c l (i + 1)];have : ¬ c = b := fun e => h (by simp [e]);simp [this]
theorem Qnr {c : Nat} (h : Q6b c) (h1 : 128 ≤ c) : ∃ l : List UInt8, (Utf8.encode (c : Int)).data.toList = l ∧ 2 ≤ l.length ∧ l.length ≤ 4 ∧ ∀ b ∈ l, 128 ≤ b.toNat := by
 have hv := (Qe1 c).2 h;unfold Utf8.encode;simp only [hv, if_true, Md];have h2 := h.2
 have m : ∀ n, n < 256 → 128 ≤ n → 128 ≤ (UInt8.ofNat n).toNat := fun n a b => by rw [Cn]; omega
 rw [if_neg (by omega)];split
 ·refine ⟨_, rfl, by simp, by simp, fun b hb => ?_⟩;simp only [Mp, Ca, or_false] at hb
  rcases hb with rfl | rfl <;> exact m _ (by omega) (by omega)
 split
 ·refine ⟨_, rfl, by simp, by simp, fun b hb => ?_⟩;simp only [Mp, Ca, or_false] at hb
  rcases hb with rfl | rfl | rfl <;> exact m _ (by omega) (by omega)
 refine ⟨_, rfl, by simp, by simp, fun b hb => ?_⟩;simp only [Mp, Ca, or_false] at hb
 rcases hb with rfl | rfl | rfl | rfl <;> exact m _ (by omega) (by omega)
theorem Qmg (M : Nat) : Zk (M + 3) [43, 35] (M + 3) 0 = some (-1) := by
 have e1 : Q6c [43, 35] 0 = (43, 1) := by decide
 have e2 : Q6c [43, 35] (0 + 1) = (35, 1) := by decide
 have b0 : Nat.blt 0 ([43, 35] : List UInt8).length = true := rfl;have b1 : Nat.blt (0 + 1) ([43, 35] : List UInt8).length = true := rfl;have b2 : Nat.blt (0 + 1 + 1) ([43, 35] : List UInt8).length = false := rfl
 have c1 : Q7 .eql ((43 : Nat) : Int) 65533 = false := by decide
 have c2 : Q7 .eql ((35 : Nat) : Int) 65533 = false := by decide
 rw [Zk, e1, b0, cond_true, c1, cond_false, Zk, e2, b1, cond_true, c2, cond_false, Zk, b2, cond_false]
theorem Qr7 {c : Nat} (hc : Q6b c) (N : Nat) : Yy N (c : Int) = some true := by
 unfold Yy;simp only [Q02, Z2];obtain ⟨k1, k2⟩ := hc;rw [decide_eq_true (show (0 : Int) ≤ (c : Int) by omega)]
 by_cases h5 : (c : Int) < 55296
 ·rw [decide_eq_true h5]; rfl
 have h6 : (57343 : Int) < (c : Int) := by omega
 have h7 : (c : Int) ≤ 1114111 := by omega
 rw [decide_eq_false h5, decide_eq_true h6, decide_eq_true h7]; rfl
theorem Qn8 {c : Nat} (hc : Q6b c) (h : 128 ≤ c) (M : Nat) : Yn (M + 1) [43, 35] (c : Int) (M + 1) = some (-1) := by
 obtain ⟨l, hl, l1, l2, l3⟩ := Qnr hc h;rw [Yn];simp only [hl, Z2, Q03]
 have ew : wrap .i64 ((l.length : Int) - 1) = ((l.length - 1 : Nat) : Int) := by rw [w64 _ (by omega)]; omega
 rw [ew]
 by_cases h2 : l.length = 2
 ·have e1 : ((l.length - 1 : Nat) : Int) = ((1 : Nat) : Int) := by rw [h2]
  rw [e1];have e2 : idx l ((1 : Nat) : Int) = some l[1] := Z8 (by omega);have e3 := l3 l[1] (Mv _);generalize l[1] = y at e2 e3
  have e4 : decide (((35 : UInt8).toNat : Int) ≠ (y.toNat : Int)) = true := by
   have : (35 : UInt8).toNat = 35 := rfl;simp only [ne_eq, decide_eq_true_eq]; omega
  have e5 : idx ([43, 35] : List UInt8) ((1 : Nat) : Int) = some 35 := rfl
  have e6 : wrap .i64 (((1 : Nat) : Int) + 1) = 2 := by decide
  have e7 : decide (((1 : Nat) : Int) < ((([43, 35] : List UInt8).length : Nat) : Int)) = true := by decide
  have e8 : decide ((0 : Int) ≤ 2) = true := by decide
  rw [e7, cond_true, e5, Li, e2, Li, e4, cond_true, e6, e8, cond_true]
  have e9 : (Nat.ble (Int.toNat 2) ([43, 35] : List UInt8).length && Nat.ble ([43, 35] : List UInt8).length ([43, 35] : List UInt8).length) = true := by decide
  rw [e9, cond_true, Li];rfl
 have e1 : decide (((l.length - 1 : Nat) : Int) < ((([43, 35] : List UInt8).length : Nat) : Int)) = false := by
  simp; omega
 rw [e1]; rfl
theorem Qcb {c : Nat} (hc : Q6b c) : TotP (fun N => Vi N [43, 35] (c : Int)) (fun v => decide (v ≥ 0) = decide (c = 43 ∨ c = 35)) := by
 show TotP (fun N => cond (Q7 .leq 0 (c : Int)) _ _) _
 have e0 : Q7 .leq 0 (c : Int) = true := by rw [Q02]; simp
 rw [e0];refine TotP.cond (fun _ => ?_) (fun h => by cases h);unfold Xf;rw [Z2, Jn];refine TotP.cond (fun h => ?_) (fun h => ?_)
 ·have h : c < 128 := by have := of_decide_eq_true h; omega
  have ew : wrap .u8 (c : Int) = c := by
   rw [IntWalk.u8_in]; omega
  refine TotP.bindE (v := Qc5 [43, 35] (UInt8.ofNat c) 0) (.of fun N => ?_) (.ret ?_)
  ·show ((Zc N [43, 35] _).bind fun v => some v) = _;rw [ew]; rfl
  have := Qln (UInt8.ofNat c) [43, 35] 0;rw [decide_eq_decide];show (0 ≤ _) ↔ _;rw [this]
  have e1 : ∀ n, n < 256 → (UInt8.ofNat c = UInt8.ofNat n ↔ c = n) := fun n hn => by
   rw [← UInt8.toNat_inj, Cn, Cn]; omega
  have a := e1 43 (by omega);have b := e1 35 (by omega);simp only [Mp, Ca, or_false];exact or_congr a b
 have h : 128 ≤ c := by have := of_decide_eq_false h; omega
 have hn : decide (c = 43 ∨ c = 35) = false := by simp; omega
 refine TotP.cond (fun h1 => ?_) (fun h1 => ?_)
 ·-- bytes that are none
  refine ⟨-1, by rw [hn]; rfl, 3, fun N hN => ?_⟩;obtain ⟨M, rfl⟩ : ∃ M, N = M + 3 := ⟨N - 3, by omega⟩;exact Qmg M
 refine TotP.bindE (.of (Qr7 hc)) ?_;refine TotP.cond (fun h => by cases h) (fun _ => ?_);refine ⟨-1, by rw [hn]; rfl, 1, fun N hN => ?_⟩;obtain ⟨M, rfl⟩ : ∃ M, N = M + 1 := ⟨N - 1, by omega⟩;exact Qn8 hc h M
end
end Go.Av
namespace Go.Av
noncomputable section
open Go.Proofs
def Qmr (s : List UInt8) : Bool := s.any fun b => b.toNat == 43 || b.toNat == 35
theorem Qom {s : List UInt8} {j : Nat} (hj : j < s.length) (h : at8 s j = 43 ∨ at8 s j = 35) : Qmr s = true := by
 unfold Qmr;rw [By];refine ⟨s[j], Mv _, ?_⟩;rw [Q4k hj] at h
 rcases h with h | h <;> simp [h]
theorem Qod {s : List UInt8} (h : ∀ j, j < s.length → at8 s j ≠ 43 ∧ at8 s j ≠ 35) : Qmr s = false := by
 unfold Qmr;rw [Cs];intro b hb;obtain ⟨j, hj, rfl⟩ := Bo hb;have := h j hj;rw [Q4k hj] at this;simp [this.1, this.2]
def asciiS : List Bool := (List.range 256).map fun n => n == 43 || n == 35
theorem Ql2 (n : Nat) (h : n < 256) : idx asciiS (n : Int) = some (n == 43 || n == 35) := by
 have hl : n < asciiS.length := by simp [asciiS]; exact h
 rw [Z8 hl]; simp [asciiS]
set_option maxRecDepth 20000 in
theorem Qd7 (s : List UInt8) (hs : s.length ≤ maxLen) : TotP (fun N => Wv N s) (fun v => decide (v ≥ 0) = Qmr s) := by
 have hm := Q5b;show TotP (fun N => cond (Jx .eql [43, 35] []) _ _) _;refine TotP.cond (fun h => by cases h) (fun _ => ?_);refine TotP.bindE (v := decide ((s.length : Int) > 8)) (.of fun N => rfl) ?_;refine TotP.cond (fun _ => ?_) (fun _ => ?_)
 ·refine Q4h (L := fun N n i => Ya N s n i) s.length (fun i => ∀ j, j < i → at8 s j ≠ 43 ∧ at8 s j ≠ 35) (fun i hi hj => ?_) (fun hj => ?_) (fun j hj => by omega)
  ·show Stp _ _ _ (fun N n => cond (Q7 .lss (i : Int) (s.length : Int)) _ _);refine Stp.cond (fun _ => ?_) (fun h => by rw [Z2] at h; have := of_decide_eq_false h; omega);refine Stp.idx (Z8 hi) ?_;have hb := De s[i];refine Stp.chk (by simp; omega) ?_;refine Stp.idx (Ql2 _ (by omega)) ?_;refine Stp.cond (fun h => ?_) (fun h => ?_)
   ·refine Stp.ret ?_;rw [Qom hi (by rw [Q4k hi]; simpa using h)];simp
   rw [w64 _ (by omega)];refine Stp.go _ ⟨by omega, fun j hj' => ?_⟩
   by_cases e : j = i
   ·subst e; rw [Q4k hi]; simpa using h
   exact hj j (by omega)
  show Stp _ _ _ (fun N n => cond (Q7 .lss (s.length : Int) (s.length : Int)) _ _);refine Stp.cond (fun h => by rw [Z2] at h; have := of_decide_eq_true h; omega) (fun _ => ?_);refine Stp.ret ?_;rw [Qod hj]; rfl
 refine Q60 (L := fun N n (p : Nat) => Yb N s n p) (fun p => ∀ j, j < p → at8 s j ≠ 43 ∧ at8 s j ≠ 35) (fun p => s.length - p) (fun p hp => ?_) 0 (fun j hj => by omega);show Stp _ _ _ (fun N n => cond (Nat.blt p s.length) _ _);refine Stp.cond (fun h => ?_) (fun h => ?_)
 ·have hl : p < s.length := by simpa [Nat.blt_eq] using h
  rw [Qhp];obtain ⟨w1, w2, w3, w4, w5, w6⟩ := Qh8 s p hl;refine Stp.bind (Qcb w6) ?_;intro v hv;rw [Q3k, hv];refine Stp.cond (fun h => ?_) (fun h => ?_)
  ·have h := of_decide_eq_true h;have h128 : at8 s p < 128 := w3.1 (by omega);refine Stp.ret ?_;rw [Qom hl (by rw [← (w4 h128).1]; exact h)];simp
  have h := of_decide_eq_false h;refine Stp.go _ ⟨fun j hj => ?_, by omega⟩
  by_cases e : j < p
  ·exact hp j e
  by_cases e2 : j = p
  ·subst e2
   by_cases h128 : at8 s j < 128
   ·rw [(w4 h128).1] at h; omega
   omega
  have := w5 (j - p) (by omega) (by omega);rw [show p + (j - p) = j by omega] at this;omega
 refine Stp.ret ?_;rw [Qod (fun j hj => hp j ?_)]
 ·rfl
 have : ¬ p < s.length := fun hlt => by
  have h' : Nat.blt p s.length = true := by rw [Bv]; exact hlt
  rw [h'] at h; cases h
 omega
theorem Q7g (s : List UInt8) (hs : s.length ≤ maxLen) : Tot (fun N => Zl N s) (Qmr s) := by
 refine TotP.tot ?_;refine TotP.bind (Qd7 s hs) (fun v hv => .ret ?_);rw [Q3k]; exact hv
def Je (s : List UInt8) : Bool := decide (s ≠ []) && Q72 s && !Qmr s
theorem Q83 (s : List UInt8) (hs : s.length ≤ maxLen) : Tot (fun N => W6 N s) (Je s) := by
 refine TotP.tot ?_;refine TotP.bindE (Qhl s) ?_;refine TotP.cond (fun h => ?_) (fun h => ?_)
 ·refine TotP.bindE (Q7g s hs) (.ret ?_);unfold Je; rw [h]; rfl
 exact .ret (by unfold Je; rw [h]; rfl)
end
end Go.Av
namespace Go.Av
noncomputable section
def Any {R : Type} (f : Nat → Option R) : Prop := TotP f fun _ => True
theorem Q8n (n size : Int) : TotP (fun N => Ze N n size) (fun l => l.length ≤ 16) := by
 show TotP (fun N => cond (Q7 .leq size 0) _ _) _;rw [Q02];refine TotP.cond (fun _ => .ret (by simp)) (fun h => ?_)
 have h : 0 < size := by have := of_decide_eq_false h; omega
 obtain ⟨m, hm, hm16⟩ : ∃ m : Nat, ifB (decide (16 < size)) (16 : Int) size = (m : Int) ∧ m ≤ 16 := by
  by_cases g : 16 < size
  ·exact ⟨16, by rw [decide_eq_true g]; rfl, by omega⟩
  exact ⟨size.toNat, by rw [decide_eq_false g]; show size = _; omega, by omega⟩
 rw [hm];refine TotP.chk (by simp only [Lb, decide_eq_true_eq]; omega) ?_;have := Q60 (L := fun N n' (p : Int × List Int) => Zu N n size n' p.1 p.2) (Q := fun l : List UInt8 => l.length ≤ 16) (fun p => ∃ i : Nat, p.1 = (i : Int) ∧ i ≤ m ∧ p.2.length = m) (fun p => m - p.1.toNat)
  ?_ (0, List.replicate ((m : Int).toNat) 0) ⟨0, rfl, by omega, by simp⟩
 ·exact this
 rintro ⟨s, l⟩ ⟨i, hs, hi, hl⟩
 simp only at hs hl
 subst hs;show Stp _ _ _ (fun N n' => cond (Q7 .lss (i : Int) (ifB (decide (16 < size)) 16 size)) _ _);rw [hm, Z2, Z2];refine Stp.cond (fun h => ?_) (fun h => ?_)
 ·have h := of_decide_eq_true h
  have e1 : wrap .i64 ((i : Int) + 1) = ((i + 1 : Nat) : Int) := by rw [w64 _ (by omega)]; omega
  refine Stp.cond (fun h8 => ?_) (fun h8 => ?_)
  ·have h8 := of_decide_eq_true h8;refine Stp.chk ?_ ?_
   ·rw [w64 (8 * (i : Int)) (by omega)]
    have : i = 0 ∨ i = 1 ∨ i = 2 ∨ i = 3 ∨ i = 4 ∨ i = 5 ∨ i = 6 ∨ i = 7 := by omega
    rcases this with rfl | rfl | rfl | rfl | rfl | rfl | rfl | rfl <;> rfl
   have e2 : wrap .i64 (wrap .i64 ((m : Int) - 1) - (i : Int)) = ((m - 1 - i : Nat) : Int) := by rw [w64 ((m : Int) - 1) (by omega), w64 _ (by omega)]; omega
   rw [e1, e2];refine Stp.idx (Z8 (show m - 1 - i < l.length by omega)) ?_;refine Stp.go (L := fun N n' (p : Int × List Int) => Zu N n size n' p.1 p.2) (_, _) ⟨⟨i + 1, rfl, by omega, by simp [hl]⟩, ?_⟩;simp only [Md]; omega
  rw [e1];refine Stp.go (L := fun N n' (p : Int × List Int) => Zu N n size n' p.1 p.2) (_, _) ⟨⟨i + 1, rfl, by omega, hl⟩, ?_⟩;simp only [Md]; omega
 exact Stp.ret (by simp [hl]; exact hm16)
theorem Qki (h : Uh) (hh : h.Node.length ≤ 300) : TotP (fun N => V8 N h) (fun l => l.length ≤ 400) := by
 refine TotP.bind (Q8n _ _) (fun a ha => ?_);refine TotP.bind (Q8n _ _) (fun b hb => ?_);refine TotP.chk (by rw [Lu]; omega) ?_;refine TotP.bind (Q8n _ _) (fun c hc => ?_);refine TotP.chk (by rw [Lu]; simp; omega) ?_;refine TotP.chk (by rw [Lu]; simp; omega) (.ret ?_)
 simp; omega
theorem Qm4 (h : Uh) : Any (fun N => J2 N h) := by
 refine TotP.bind (V := fun _ => True) ?_ (fun _ _ => .ret trivial);show TotP (fun N => cond (Q7 .geq h.Radius 0) _ _) _;refine TotP.cond (fun _ => TotP.cond (fun _ => TotP.cond (fun _ => .ret trivial) (fun _ => .ret trivial)) (fun _ => .ret trivial)) (fun _ => .ret trivial)
section
variable (e : Wa) (lm : Us) (h1 : e.Hops.length ≤ 8) (h2 : ∀ h ∈ e.Hops, h.Node.length ≤ 300)
include h1 h2
end
end
end Go.Av
namespace Go.Av
noncomputable section
section
variable {R S T : Type} {L : Nat → Nat → S → Option R} {P : S → Prop} {Q : R → Prop}
end
end
end Go.Av
namespace Go.Av
noncomputable section
structure OkE (e : Wa) : Prop where
 topic : e.Topic.length ≤ maxLen
 props : e.Props.length ≤ maxLen
 filters : e.Packet.Filters.length ≤ maxLen
 pprops : e.Packet.Props.length ≤ maxLen
 wprops : e.Packet.Will.Props.length ≤ maxLen
structure LightE (e : Wa) : Prop where
 topic : e.Topic.length ≤ 2000
 payload : e.Payload.length ≤ 2000
 props : e.Props.length ≤ 30 ∧ ∀ p ∈ e.Props, p.Text.length ≤ 300 ∧ p.Value.length ≤ 300
 hops : e.Hops.length ≤ 8 ∧ ∀ h ∈ e.Hops, h.Node.length ≤ 300
def Lv (o : Option Int) (P : Prop) : Prop := ∃ v, o = some v ∧ (v = 0 → P)
theorem Lv.of {v : Int} {P : Prop} (h : P) : Lv (some v) P := ⟨v, rfl, fun _ => h⟩
theorem Lv.no {v : Int} {P : Prop} (h : v ≠ 0) : Lv (some v) P := ⟨v, rfl, fun e => absurd e h⟩
theorem Lv.cond {b : Bool} {x y : Option Int} {P : Prop} (h1 : Lv x P) (h2 : Lv y P) : Lv (cond b x y) P := by cases b <;> assumption
structure PubE (e : Wa) : Prop where
 proto : e.Proto = 1 ∨ e.Proto = 2 ∨ e.Proto = 3 ∨ e.Proto = 4
 kind : e.Kind = 1
 qos : e.QoS = -1 ∨ e.QoS = 0 ∨ e.QoS = 1 ∨ e.QoS = 2
end
end Go.Av
namespace Go.Av
noncomputable section
open Go.Proofs
set_option maxRecDepth 100000
end
end Go.Av
namespace Go.Av
noncomputable section
open Go.Proofs
set_option maxRecDepth 100000
end
end Go.Av
namespace Go.Av
noncomputable section
open Go.Proofs
set_option maxRecDepth 100000
end
end Go.Av
namespace Go.Av
noncomputable section
open Go.Proofs
set_option maxRecDepth 100000
end
end Go.Av
namespace Go.Av
noncomputable section
open Go.Proofs
set_option maxRecDepth 100000
end
end Go.Av
namespace Go.Av
noncomputable section
open Go.Proofs
set_option maxRecDepth 100000
end
end Go.Av
namespace Go.Av
noncomputable section
open Go.Proofs
set_option maxRecDepth 100000
structure FB (f : V4) : Prop where
 fine : ∀ x ∈ f.Values, Fine x
 sz : Qa.szs f.Values < 160000000
 wgt : Qa.wgts f.Values < 4000000000
theorem FB.len {f : V4} (h : FB f) : f.Values.length < 160000000 := by
 have h1 := Qa.szs_len f.Values;have h2 := h.sz;omega
end
end Go.Av
namespace Go.Av
noncomputable section
open Go.Proofs
set_option maxRecDepth 100000
theorem V4.ext' {a b : V4} (h1 : a.Type' = b.Type') (h2 : a.Channel = b.Channel) (h3 : a.Ext = b.Ext) (h4 : a.Values = b.Values) : a = b := by cases a; cases b; simp_all
noncomputable instance : DecidableEq V4 := fun a b => decidable_of_iff (a.Type' = b.Type' ∧ a.Channel = b.Channel ∧ a.Ext = b.Ext ∧ a.Values = b.Values) ⟨fun h => V4.ext' h.1 h.2.1 h.2.2.1 h.2.2.2, fun h => by rw [h]; exact ⟨rfl, rfl, rfl, rfl⟩⟩
theorem Qo1 (l m : List Qa) (i : Nat) (h : i < l.length) (h' : i < m.length) : decide (l.drop i = m.drop i) = (decide (l[i] = m[i]) && decide (l.drop (i + 1) = m.drop (i + 1))) := by
 rw [Nz h, Nz h', Bool.eq_iff_iff];simp only [decide_eq_true_eq, Lb, Ce]
theorem Q76 {N : Nat} (hN : 800000000 ≤ N) {a b : V4} (ha : Qa.szs a.Values < 700000000) (hl : a.Values.length = b.Values.length) : ∀ (n i : Nat), i ≤ a.Values.length → a.Values.length - i < n → Zd N a b n (i : Int) = some (decide (a.Values.drop i = b.Values.drop i))
 | 0, i, _, h => by omega
 | n + 1, i, hi, hn => by
  have hs := Qa.szs_len a.Values;simp only [Zd, Q35, Qjv, Q6a, Q9p]
  by_cases h : i < a.Values.length
  ·have h' : i < b.Values.length := by omega
   have hx := Qa.szs_mem _ _ (Mv h);rw [if_pos (by omega), Lc h, Lc h'];simp only [Li];rw [Qad N _ _ (by omega) (by omega), Qo1 _ _ i h h'];simp only [Li];rw [Q7j _ (by omega)];have ih := Q76 hN ha hl n (i + 1) (by omega) (by omega)
   have ih : Zd N a b n ((i : Int) + 1) = some (decide (a.Values.drop (i + 1) = b.Values.drop (i + 1))) := by exact_mod_cast ih
   rw [ih];cases decide (a.Values[i] = b.Values[i]) <;> rfl
  rw [if_neg (by omega), Mz (by omega), Mz (by omega)]; rfl
theorem Qcw {N : Nat} (hN : 800000000 ≤ N) (a b : V4) (ha : Qa.szs a.Values < 700000000) : W0 N a b = some (decide (a = b)) := by
 have hs := Qa.szs_len a.Values;simp only [W0, Q35, Qsq, Qgv, Q6a]
 by_cases h1 : a.Type' = b.Type'
 ·rw [if_neg (by simp [h1])]
  by_cases h2 : a.Channel = b.Channel
  ·rw [if_neg (by simp [h2])]
   by_cases h3 : a.Ext = b.Ext
   ·rw [if_neg (by simp [h3])]
    by_cases h4 : a.Values.length = b.Values.length
    ·rw [if_neg (by simp [h4])];have := Q76 hN ha h4 N 0 (by omega) (by omega);rw [Nq, Nq] at this
     have : Zd N a b N 0 = some (decide (a.Values = b.Values)) := by exact_mod_cast this
     rw [this]
     congr 1
     rw [Bool.eq_iff_iff];simp only [decide_eq_true_eq];exact ⟨fun h => V4.ext' h1 h2 h3 h, fun h => by rw [h]⟩
    rw [if_pos (by omega), decide_eq_false (fun h => h4 (by rw [h]))]
   rw [if_pos h3, decide_eq_false (fun h => h3 (by rw [h]))]
  rw [if_pos h2, decide_eq_false (fun h => h2 (by rw [h]))]
 rw [if_pos h1, decide_eq_false (fun h => h1 (by rw [h]))]
end
end Go.Av
namespace Go.Av
noncomputable section
theorem Q5p (x y : List UInt8) : Jx .eql x y = decide (x = y) := by
 show (x == y) = _
 by_cases h : x = y
 ·rw [h]; simp
 rw [decide_eq_false h]; exact beq_eq_false_iff_ne.2 h
theorem Qnw (x y : List UInt8) : Jx .neq x y = decide (x ≠ y) := by
 show (!(x == y)) = _
 by_cases h : x = y
 ·rw [h]; simp
 rw [decide_eq_true h, beq_eq_false_iff_ne.2 h]; rfl
section
variable {T : Type}
theorem Qgq {L : Nat → Nat → Int → Option Bool} {a b : List T} {eq : T → T → Bool} (heq : ∀ x y, eq x y = true ↔ x = y) (hab : a.length = b.length) (hm : a.length ≤ maxLen)
  (Qu : ∀ N n (i : Nat) (h : i < a.length) (h' : i < b.length), L N (n + 1) (i : Int) = cond (!(eq a[i] b[i])) (some false) (L N n (wrap .i64 ((i : Int) + 1)))) (fin : ∀ N n, L N (n + 1) (a.length : Int) = some true) :
  TotP (fun N => L N N 0) (fun v => v = true ↔ a = b) := by
 have hml := Q5b;refine Q4h (L := L) a.length (fun i => ∀ j (h : j < a.length) (h' : j < b.length), j < i → a[j] = b[j]) (fun i hi hj => ?_) (fun hj => ?_) (fun j _ _ hj => by omega)
 ·have e : (fun N n => L N (n + 1) (i : Int)) = fun N n => cond (!(eq (a[i]'hi) (b[i]'(by omega)))) (some false) (L N n (wrap .i64 ((i : Int) + 1))) := by
   funext N n; exact Qu N n i hi (by omega)
  rw [e, w64 _ (by omega)];refine Stp.cond (fun h => Stp.ret ?_) (fun h => Stp.go (L := L) _ ⟨by omega, fun j hj1 hj2 hji => ?_⟩)
  ·have h : ¬ eq (a[i]'hi) (b[i]'(by omega)) = true := by simpa using h
   refine ⟨fun h => (by cases h), fun e => absurd ((heq _ _).2 ?_) h⟩;subst e; rfl
  have h : eq (a[i]'hi) (b[i]'(by omega)) = true := by simpa using h
  by_cases e : j = i
  ·subst e; exact (heq _ _).1 h
  exact hj j hj1 hj2 (by omega)
 have e : (fun N n => L N (n + 1) (a.length : Int)) = fun _ _ => some true := by funext N n; exact fin N n
 rw [e];exact Stp.ret ⟨fun _ => List.ext_getElem hab (fun j h1 h2 => hj j h1 h2 h1), fun _ => rfl⟩
end
theorem Quj {x y : G0} : (((x.ID : Int) == y.ID) && (((x.N' : Int) == y.N') && (((x.Text : List UInt8) == y.Text) && (((x.Value : List UInt8) == y.Value) && true)))) = true ↔ x = y := by
 cases x; cases y; simp
theorem Qxo {x y : Uh} : (((x.Radius : Int) == y.Radius) && (((x.Node : List UInt8) == y.Node) && true)) = true ↔ x = y := by
 cases x; cases y; simp
theorem Qqx {x y : Vc} : (((x.Topic : List UInt8) == y.Topic) && (((x.QoS : Int) == y.QoS) && (((x.NoLocal : Bool) == y.NoLocal) && (((x.AsPublished : Bool) == y.AsPublished) && (((x.Handling : Int) == y.Handling) && true))))) = true ↔ x = y := by
 cases x; cases y; simp
structure Qto (p : Xr) : Prop where
 codes : p.Codes.length ≤ maxLen
 filters : p.Filters.length ≤ maxLen
 props : p.Props.length ≤ maxLen
 wprops : p.Will.Props.length ≤ maxLen
end
end Go.Av
namespace Go.Av
noncomputable section
theorem Q13 (n : Int) (size : Nat) (h0 : 1 ≤ size) (h16 : size ≤ 16) : TotP (fun N => Ze N n (size : Int)) (fun l => l.length = size) := by
 show TotP (fun N => cond (Q7 .leq (size : Int) 0) _ _) _;rw [Q02];refine TotP.cond (fun h => by have := of_decide_eq_true h; omega) (fun _ => ?_)
 have hm : ifB (decide (16 < (size : Int))) (16 : Int) (size : Int) = (size : Int) := by rw [decide_eq_false (by omega)]; rfl
 rw [hm];refine TotP.chk (by simp only [Lb, decide_eq_true_eq]; omega) ?_;have := Q60 (L := fun N n' (p : Int × List Int) => Zu N n (size : Int) n' p.1 p.2) (Q := fun l : List UInt8 => l.length = size) (fun p => ∃ i : Nat, p.1 = (i : Int) ∧ i ≤ size ∧ p.2.length = size) (fun p => size - p.1.toNat)
  ?_ (0, List.replicate ((size : Int).toNat) 0) ⟨0, rfl, by omega, by simp⟩
 ·exact this
 rintro ⟨s, l⟩ ⟨i, hs, hi, hl⟩
 simp only at hs hl
 subst hs;show Stp _ _ _ (fun N n' => cond (Q7 .lss (i : Int) (ifB (decide (16 < (size : Int))) 16 (size : Int))) _ _);rw [hm, Z2, Z2];refine Stp.cond (fun h => ?_) (fun h => ?_)
 ·have h := of_decide_eq_true h
  have e1 : wrap .i64 ((i : Int) + 1) = ((i + 1 : Nat) : Int) := by rw [w64 _ (by omega)]; omega
  refine Stp.cond (fun h8 => ?_) (fun h8 => ?_)
  ·have h8 := of_decide_eq_true h8;refine Stp.chk ?_ ?_
   ·rw [w64 (8 * (i : Int)) (by omega)]
    have : i = 0 ∨ i = 1 ∨ i = 2 ∨ i = 3 ∨ i = 4 ∨ i = 5 ∨ i = 6 ∨ i = 7 := by omega
    rcases this with rfl | rfl | rfl | rfl | rfl | rfl | rfl | rfl <;> rfl
   have e2 : wrap .i64 (wrap .i64 ((size : Int) - 1) - (i : Int)) = ((size - 1 - i : Nat) : Int) := by rw [w64 ((size : Int) - 1) (by omega), w64 _ (by omega)]; omega
   rw [e1, e2];refine Stp.idx (Z8 (show size - 1 - i < l.length by omega)) ?_;refine Stp.go (L := fun N n' (p : Int × List Int) => Zu N n (size : Int) n' p.1 p.2) (_, _) ⟨⟨i + 1, rfl, by omega, by simp [hl]⟩, ?_⟩;simp only [Md]; omega
  rw [e1];refine Stp.go (L := fun N n' (p : Int × List Int) => Zu N n (size : Int) n' p.1 p.2) (_, _) ⟨⟨i + 1, rfl, by omega, hl⟩, ?_⟩;simp only [Md]; omega
 exact Stp.ret (by simp [hl])
theorem Qey {R : Type} {f : Nat → Option R} {r : R} (h : Tot f r) : Any f := ⟨r, trivial, h⟩
theorem TotP.any {R : Type} {f : Nat → Option R} {Q : R → Prop} (h : TotP f Q) : Any f := h.mono fun _ _ => trivial
structure OkP (l : List G0) : Prop where
 len : l.length ≤ 30
 txt : ∀ p ∈ l, p.Text.length ≤ maxLen
structure Qre (p : Xr) : Prop where
 l : Qto p
 props : OkP p.Props
 wprops : OkP p.Will.Props
 topic : p.Topic.length ≤ 2000
 payload : p.Payload.length ≤ 2000
 client : p.Client.length ≤ 2000
 user : p.User.length ≤ 2000
 pass : p.Pass.length ≤ 2000
 wtopic : p.Will.Topic.length ≤ 2000
 wpayload : p.Will.Payload.length ≤ 2000
 codes : p.Codes.length ≤ 30
 filters : p.Filters.length ≤ 30 ∧ ∀ f ∈ p.Filters, f.Topic.length ≤ 2000
section
variable {p : Xr} (h : Qre p)
include h
end
end
end Go.Av
namespace Go.Av
noncomputable section
theorem Qfr : ∀ (l : List UInt8) (c : UInt8) (n : Nat), Q6e l c n ≤ n + l.length
 | [], _, n => Ln _
 | b :: l, c, n => by
  unfold Q6e;split
  ·have := Qfr l c (n + 1); simp only [Mi]; omega
  have := Qfr l c n; simp only [Mi]; omega
theorem Ql9 : ∀ (l : List UInt8) (c : UInt8) (i : Nat), Qc5 l c i = -1 ∨ ∃ k : Nat, Qc5 l c i = (k : Int) ∧ i ≤ k ∧ k < i + l.length
 | [], _, i => .inl rfl
 | b :: l, c, i => by
  unfold Qc5;split
  ·exact .inr ⟨i, rfl, Ln _, by simp⟩
  rcases Ql9 l c (i + 1) with h | ⟨k, h1, h2, h3⟩
  ·exact .inl h
  exact .inr ⟨k, h1, by omega, by simp only [Mi]; omega⟩
def Qtt (s : List UInt8) (N n : Nat) (p : List UInt8 × Int × List (List UInt8)) : Option (List (List UInt8)) := Yx N s n p.1 p.2.1 p.2.2
theorem Qj3 (s : List UInt8) (hs : s.length ≤ 70000) : TotP (fun N => Uw N s) (fun l => l.length ≤ 70001 ∧ ∀ x ∈ l, x.length ≤ 70000) := by
 unfold Uw;refine TotP.cond (fun h => by rw [Q5p] at h; exact absurd (of_decide_eq_true h) (by simp)) (fun _ => ?_);obtain ⟨c, hcd⟩ : ∃ c, Q6e s (UInt8.ofNat (Int.toNat 47)) 0 = c := ⟨_, rfl⟩;have hc := Qfr s (UInt8.ofNat (Int.toNat 47)) 0;rw [hcd] at hc ⊢;have e1 : wrap .i64 ((s.length : Int) + 1) = (s.length : Int) + 1 := w64 _ (by omega);have e2 : wrap .i64 ((c : Int) + 1) = (c : Int) + 1 := w64 _ (by omega)
 have hn : (ifB (decide (wrap .i64 ((s.length : Int) + 1) < wrap .i64 ((c : Int) + 1))) (wrap .i64 ((s.length : Int) + 1)) (wrap .i64 ((c : Int) + 1))) = ((c + 1 : Nat) : Int) := by
  rw [e1, e2, decide_eq_false (by omega)]; show (c : Int) + 1 = _; omega
 have hm : wrap .i64 (((c + 1 : Nat) : Int) - 1) = (c : Int) := by rw [w64 _ (by omega)]; omega
 rw [hn];refine TotP.chk (by simp only [Lb, decide_eq_true_eq]; omega) ?_;have := Q60 (L := Qtt s) (Q := fun l => l.length ≤ 70001 ∧ ∀ x ∈ l, x.length ≤ 70000) (fun p => p.1.length ≤ s.length ∧ ∃ i : Nat, p.2.1 = (i : Int) ∧ i ≤ c ∧ p.2.2.length = c + 1 ∧ ∀ x ∈ p.2.2, x.length ≤ 70000) (fun p => c - p.2.1.toNat)
  ?_ (s, 0, List.replicate (((c + 1 : Nat) : Int).toNat) []) ⟨Ln _, 0, rfl, by omega, by simp, fun x hx => by simp at hx; simp [hx]⟩
 ·exact this
 rintro ⟨t, j, l⟩ ⟨ht, i, hi, hic, hl, hx⟩
 simp only at ht hi hl hx
 subst hi
 have hset : ∀ (y : List UInt8), y.length ≤ 70000 → ∀ x ∈ l.set (Int.toNat (i : Int)) y, x.length ≤ 70000 := fun y hy x hxm => by
  rcases Bq hxm with h | h
  ·exact hx x h
  rw [h]; exact hy
 have ei : wrap .i64 ((i : Int) + 1) = ((i + 1 : Nat) : Int) := by rw [w64 _ (by omega)]; omega
 have fin : Stp (Qtt s) (fun p => (p.1.length ≤ s.length ∧ ∃ i : Nat, p.2.1 = (i : Int) ∧ i ≤ c ∧ p.2.2.length = c + 1 ∧ ∀ x ∈ p.2.2, x.length ≤ 70000) ∧ c - p.2.1.toNat < c - (i : Int).toNat) (fun l => l.length ≤ 70001 ∧ ∀ x ∈ l, x.length ≤ 70000)
   (fun (_ : Nat) (_ : Nat) => (idx (l : List (List UInt8)) (i : Int)).bind fun _ => cond (decide (0 ≤ (wrap .i64 ((i : Int) + 1)))) (cond (Nat.ble 0 ((wrap .i64 ((i : Int) + 1)).toNat) && Nat.ble ((wrap .i64 ((i : Int) + 1)).toNat) l.length) (some ((((l : List (List UInt8)).set (Int.toNat (i : Int)) t) : List (List UInt8)).take ((wrap .i64 ((i : Int) + 1)).toNat))) none) none) := by
  rw [ei];refine Stp.idx (Z8 (show i < l.length by omega)) ?_;refine Stp.chk (by rw [decide_eq_true_eq]; omega) ?_;refine Stp.chk (by simp only [Lb, Lu, Md]; omega) ?_;exact Stp.ret ⟨by rw [Mh, Mu]; omega, fun x hxm => hset t (by omega) x (Cf hxm)⟩
 show Stp _ _ _ (fun N n => cond (Q7 .lss (i : Int) (wrap .i64 ((ifB (decide (wrap .i64 ((s.length : Int) + 1) < wrap .i64 ((Q6e s (UInt8.ofNat (Int.toNat 47)) 0 : Int) + 1))) (wrap .i64 ((s.length : Int) + 1)) (wrap .i64 ((Q6e s (UInt8.ofNat (Int.toNat 47)) 0 : Int) + 1))) - 1))) _ _);rw [hcd, hn, hm, Z2];refine Stp.cond (fun h => ?_) (fun _ => fin);have h := of_decide_eq_true h
 have go : ∀ (t' y : List UInt8), t'.length ≤ s.length → y.length ≤ 70000 → Stp (Qtt s) (fun p => (p.1.length ≤ s.length ∧ ∃ i : Nat, p.2.1 = (i : Int) ∧ i ≤ c ∧ p.2.2.length = c + 1 ∧ ∀ x ∈ p.2.2, x.length ≤ 70000) ∧ c - p.2.1.toNat < c - (i : Int).toNat) (fun l => l.length ≤ 70001 ∧ ∀ x ∈ l, x.length ≤ 70000)
   (fun N n => Yx N s n t' (wrap .i64 ((i : Int) + 1)) (l.set (Int.toNat (i : Int)) y)) := fun t' y h1 h2 => by
  rw [ei];exact Stp.go (L := Qtt s) (t', ((i + 1 : Nat) : Int), l.set (Int.toNat (i : Int)) y) ⟨⟨h1, i + 1, rfl, by omega, by rw [Mu]; exact hl, hset y h2⟩, by simp only [Md]; omega⟩
 refine Stp.cond (fun h2 => ?_) (fun _ => ?_)
 ·rw [Q5p] at h2;have h2 := of_decide_eq_true h2;refine Stp.idx (Z8 (show i < l.length by omega)) ?_;refine Stp.chk (by rw [← h2]; rfl) ?_;exact go _ _ (by simp only [Nd, Mh]; omega) (by simp)
 refine Stp.bind (f := fun N => Zc N t 47) (V := fun v => v = Qc5 t (UInt8.ofNat (Int.toNat 47)) 0) ⟨_, rfl, .of fun _ => rfl⟩ (fun v hv => ?_);rw [Z2]
 rcases Ql9 t (UInt8.ofNat (Int.toNat 47)) 0 with h3 | ⟨k, h3, _, h4⟩
 ·rw [hv, h3];exact Stp.cond (fun _ => fin) (fun h => nomatch h)
 rw [hv, h3, decide_eq_false (by omega)]
 have k0 : wrap .i64 ((k : Int) + 0) = (k : Int) := by rw [w64 _ (by omega)]; omega
 have k1 : wrap .i64 ((k : Int) + 1) = ((k + 1 : Nat) : Int) := by rw [w64 _ (by omega)]; omega
 refine Stp.cond (fun h => nomatch h) (fun _ => ?_);rw [k0, k1];refine Stp.chk (by rw [decide_eq_true_eq]; omega) ?_;refine Stp.chk (by simp only [Lb, Lu, Md]; omega) ?_;refine Stp.idx (Z8 (show i < l.length by omega)) ?_;refine Stp.chk (by rw [decide_eq_true_eq]; omega) ?_;refine Stp.chk (by simp only [Lb, Lu, Md]; omega) ?_;exact go _ _ (by simp only [Nd, Mh]; omega) (by simp only [Nd, Mh]; omega)
end
end Go.Av
namespace Go.Av
noncomputable section
theorem ml7 : 70000 ≤ maxLen := by unfold maxLen; decide
theorem Qj5 (l : List (List UInt8)) (h1 : l.length ≤ 70001) (h2 : ∀ x ∈ l, x.length ≤ 70000) : Any (fun N => Uy N l) := by
 have hm := ml7
 have hw : ∀ s, Any (fun N => U0 N s) := fun s => by
  unfold U0
  repeat' first
   | exact TotP.ret trivial
   | refine TotP.cond (fun _ => ?_) (fun _ => ?_)
 unfold Uy;refine Q4h (L := fun N n i => Z5 N l n i) l.length (fun _ => True) (fun i hi _ => ?_) (fun _ => ?_) trivial
 ·show Stp _ _ _ (fun N n => cond (Q7 .lss (i : Int) ((Qd cS l).length : Int)) _ _);rw [Qh, Z2];refine Stp.cond (fun _ => ?_) (fun _ => Stp.ret trivial);refine Stp.idx (Z8 hi) ?_;have hx := h2 _ (Mv hi)
  have hg : Stp (fun N n i => Z5 N l n i) (fun s => s = ((i + 1 : Nat) : Int) ∧ True) (fun _ => True) (fun N n => Z5 N l n (wrap .i64 ((i : Int) + 1))) := by
   rw [w64 _ (by omega)];exact Stp.go (L := fun N n i => Z5 N l n i) _ ⟨by omega, trivial⟩
  have hc : Any (fun N => Zl N l[i]) := Qey (Q7g _ (by omega))
  have ht : Stp (fun N n i => Z5 N l n i) (fun s => s = ((i + 1 : Nat) : Int) ∧ True) (fun _ => True) (fun N n => (U0 N l[i]).bind fun v => cond (!v) ((Zl N l[i]).bind fun w => cond w (some false) (Z5 N l n (wrap .i64 ((i : Int) + 1)))) (Z5 N l n (wrap .i64 ((i : Int) + 1)))) := by
   refine Stp.bind (hw _) (fun _ _ => Stp.cond (fun _ => ?_) (fun _ => hg));exact Stp.bind hc (fun _ _ => Stp.cond (fun _ => Stp.ret trivial) (fun _ => hg))
  exact Stp.cond (fun _ => Stp.cond (fun _ => Stp.ret trivial) (fun _ => ht)) (fun _ => ht)
 show Stp _ _ _ (fun N n => cond (Q7 .lss (l.length : Int) ((Qd cS l).length : Int)) _ _);rw [Qh, Z2, decide_eq_false (by omega)];exact Stp.ret trivial
theorem Qih (s : List UInt8) (hs : s.length ≤ 70000) : Any (fun N => V3 N s) := by
 unfold V3;refine TotP.bindE (Qhl s) ?_;refine TotP.cond (fun _ => ?_) (fun _ => .ret trivial);refine TotP.bind (Qj3 s hs) (fun l hl => ?_);exact TotP.bind (Qj5 l hl.1 hl.2) (fun _ _ => .ret trivial)
section
variable {p : Xr} (h : Qre p)
include h
end
end
end Go.Av
namespace Go.Av
noncomputable section
section
variable {p : Xr} (h : Qre p)
include h
end
end
end Go.Av
namespace Go.Av
noncomputable section
section
variable {p : Xr} (h : Qre p)
include h
end
section
variable {p : Xr} (h : Qre p)
include h
end
end
end Go.Av
namespace Go.Av
noncomputable section
theorem Qdy (f : Yp) : Any (fun N => Ul N f) := by
 unfold Ul
 repeat' first
  | exact TotP.ret trivial
  | refine TotP.cond (fun _ => ?_) (fun _ => ?_)
theorem Qmm (k : Int) : Any (fun N => Jg N k) := by
 unfold Jg
 repeat' first
  | exact TotP.ret trivial
  | refine TotP.cond (fun _ => ?_) (fun _ => ?_)
theorem Qnm (k : Int) (f : Yp) : Any (fun N => Q15 N k f) := by
 have j6 : ∀ c1 c2 c3 c4 c5 c6, Any (fun N => Ua N c1 c2 c3 c4 c5 c6) := fun c1 c2 c3 c4 c5 c6 => TotP.ret trivial;have j5 : ∀ v c1 c2 c3 c4 c5, Any (fun N => U8 N f v c1 c2 c3 c4 c5) := fun v c1 c2 c3 c4 c5 => TotP.cond (fun _ => j6 _ _ _ _ _ _) (fun _ => j6 _ _ _ _ _ _);have j4 : ∀ v c1 c2 c3 c4, Any (fun N => Ue N f v c1 c2 c3 c4) := fun v c1 c2 c3 c4 => TotP.cond (fun _ => j5 _ _ _ _ _ _) (fun _ => j5 _ _ _ _ _ _);have j3 : ∀ v c1 c2 c3, Any (fun N => U9 N f v c1 c2 c3) := fun v c1 c2 c3 => TotP.cond (fun _ => j4 _ _ _ _ _) (fun _ => j4 _ _ _ _ _);have j2 : ∀ v c1 c2, Any (fun N => U6 N f v c1 c2) := fun v c1 c2 => TotP.cond (fun _ => j3 _ _ _ _) (fun _ => j3 _ _ _ _);have j1 : ∀ v c1, Any (fun N => Uc N f v c1) := fun v c1 => TotP.cond (fun _ => j2 _ _ _) (fun _ => j2 _ _ _);have j0 : ∀ c1, Any (fun N => U1 N k f c1) := fun c1 => TotP.cond (fun _ => .ret trivial) (fun _ => TotP.bind (Qmm k) (fun v _ => TotP.cond (fun _ => j1 _ _) (fun _ => j1 _ _)));exact TotP.bind (Qdy f) (fun v _ => TotP.cond (fun _ => .ret trivial) (fun _ => TotP.cond (fun _ => j0 _) (fun _ => j0 _)))
structure Cd (B : Nat) (c : Q3) : Prop where
 d : c.do' = 1 ∨ c.do' = 2
 nm : c.m.Name.length ≤ 70000
 da : c.m.Data.length ≤ 70000
 ou : c.out.length ≤ B
theorem Cd.mono {B C : Nat} {c : Q3} (h : Cd B c) (hB : B ≤ C) : Cd C c := ⟨h.d, h.nm, h.da, Ms h.ou hB⟩
theorem Cd.zero {B : Nat} {c : Q3} (h : Cd B c) : Q7 .eql c.do' 0 = false := by
 have := h.d;rw [Jn]; exact decide_eq_false (by omega)
theorem Q3e {v : List UInt8} {n : Nat} (h : v.length = n + 1) : (!(Nat.beq v.length 0)) = true := by rw [h]; rfl
section
variable {B : Nat} {c : Q3} (h : Cd B c) (hB : B ≤ 10000000)
include h hB
theorem Qik : TotP (fun N => Zv N c) (fun r => Cd (B + 70000) r.2) := by
 have hz := h.zero; have hd := h.d; have hn := h.nm; have ha := h.da; have ho := h.ou;unfold Zv;rw [hz]
 repeat' first
  | exact TotP.ret ⟨hd, by (first | (simp only [Ly]; omega) | (dsimp only; omega) | omega), by (first | (simp only [Ly]; omega) | (dsimp only; omega) | omega), by (first | (simp only [Lr, Lx]; omega) | (dsimp only; omega) | omega)⟩
  | refine TotP.cond (fun e => absurd e Lh) (fun _ => ?_)
  | refine TotP.bind (Q13 _ 1 (by omega) (by omega)) (fun v hv => TotP.chk (Q3e hv) (TotP.chk (by rw [Lu]; omega) ?_))
  | refine TotP.chk (by rw [Lu]; omega) ?_
  | refine TotP.cond (fun _ => ?_) (fun _ => ?_)
theorem Ql0 : TotP (fun N => Y8 N c) (fun r => Cd (B + 70000) r.2) := by
 have hz := h.zero; have hd := h.d; have hn := h.nm; have ha := h.da; have ho := h.ou;unfold Y8;rw [hz]
 repeat' first
  | exact TotP.ret ⟨hd, by (first | (simp only [Ly]; omega) | (dsimp only; omega) | omega), by (first | (simp only [Ly]; omega) | (dsimp only; omega) | omega), by (first | (simp only [Lr, Lx]; omega) | (dsimp only; omega) | omega)⟩
  | refine TotP.cond (fun e => absurd e Lh) (fun _ => ?_)
  | refine TotP.bind (Q13 _ 2 (by omega) (by omega)) (fun v hv => TotP.chk (Q3e hv) (TotP.chk (by rw [Lu]; omega) ?_))
  | refine TotP.chk (by rw [Lu]; omega) ?_
  | refine TotP.cond (fun _ => ?_) (fun _ => ?_)
theorem Qku : TotP (fun N => Yi N c) (fun r => Cd (B + 70000) r.2) := by
 have hz := h.zero; have hd := h.d; have hn := h.nm; have ha := h.da; have ho := h.ou;unfold Yi;rw [hz]
 repeat' first
  | exact TotP.ret ⟨hd, by (first | (simp only [Ly]; omega) | (dsimp only; omega) | omega), by (first | (simp only [Ly]; omega) | (dsimp only; omega) | omega), by (first | (simp only [Lr, Lx]; omega) | (dsimp only; omega) | omega)⟩
  | refine TotP.cond (fun e => absurd e Lh) (fun _ => ?_)
  | refine TotP.bind (Q13 _ 1 (by omega) (by omega)) (fun v hv => TotP.chk (Q3e hv) (TotP.chk (by rw [Lu]; omega) ?_))
  | refine TotP.chk (by rw [Lu]; omega) ?_
  | refine TotP.cond (fun _ => ?_) (fun _ => ?_)
theorem Qf7 : TotP (fun N => Y3 N c) (fun r => Cd (B + 70000) r.2) := by
 have hz := h.zero; have hd := h.d; have hn := h.nm; have ha := h.da; have ho := h.ou;unfold Y3;rw [hz]
 repeat' first
  | exact TotP.ret ⟨hd, by (first | (simp only [Ly]; omega) | (dsimp only; omega) | omega), by (first | (simp only [Ly]; omega) | (dsimp only; omega) | omega), by (first | (simp only [Lr, Lx]; omega) | (dsimp only; omega) | omega)⟩
  | refine TotP.cond (fun e => absurd e Lh) (fun _ => ?_)
  | refine TotP.bind (Q13 _ 1 (by omega) (by omega)) (fun v hv => TotP.chk (Q3e hv) (TotP.chk (by rw [Lu]; omega) ?_))
  | refine TotP.chk (by rw [Lu]; omega) ?_
  | refine TotP.cond (fun _ => ?_) (fun _ => ?_)
theorem Qpn : TotP (fun N => Zh N c) (fun r => Cd (B + 70000) r.2) := by
 have hz := h.zero; have hd := h.d; have hn := h.nm; have ha := h.da; have ho := h.ou;unfold Zh;rw [hz]
 repeat' first
  | exact TotP.ret ⟨hd, by (first | (simp only [Ly]; omega) | (dsimp only; omega) | omega), by (first | (simp only [Ly]; omega) | (dsimp only; omega) | omega), by (first | (simp only [Lr, Lx]; omega) | (dsimp only; omega) | omega)⟩
  | refine TotP.cond (fun e => absurd e Lh) (fun _ => ?_)
  | refine TotP.bind (Q13 _ 1 (by omega) (by omega)) (fun v hv => TotP.chk (Q3e hv) (TotP.chk (by rw [Lu]; omega) ?_))
  | refine TotP.chk (by rw [Lu]; omega) ?_
  | refine TotP.cond (fun _ => ?_) (fun _ => ?_)
theorem Qry : TotP (fun N => Zs N c) (fun r => Cd (B + 70000) r.2) := by
 have hz := h.zero; have hd := h.d; have hn := h.nm; have ha := h.da; have ho := h.ou;unfold Zs;rw [hz]
 repeat' first
  | exact TotP.ret ⟨hd, by (first | (simp only [Ly]; omega) | (dsimp only; omega) | omega), by (first | (simp only [Ly]; omega) | (dsimp only; omega) | omega), by (first | (simp only [Lr, Lx]; omega) | (dsimp only; omega) | omega)⟩
  | refine TotP.cond (fun e => absurd e Lh) (fun _ => ?_)
  | refine TotP.bind (Q13 _ 2 (by omega) (by omega)) (fun v hv => TotP.chk (Q3e hv) (TotP.chk (by rw [Lu]; omega) ?_))
  | refine TotP.chk (by rw [Lu]; omega) ?_
  | refine TotP.cond (fun _ => ?_) (fun _ => ?_)
theorem Qt2 : TotP (fun N => Qt N c) (fun r => Cd (B + 70000) r.2) := by
 have hz := h.zero; have hd := h.d; have hn := h.nm; have ha := h.da; have ho := h.ou;unfold Qt;rw [hz]
 repeat' first
  | exact TotP.ret ⟨hd, by (first | (simp only [Ly]; omega) | (dsimp only; omega) | omega), by (first | (simp only [Ly]; omega) | (dsimp only; omega) | omega), by (first | (simp only [Lr, Lx]; omega) | (dsimp only; omega) | omega)⟩
  | refine TotP.cond (fun e => absurd e Lh) (fun _ => ?_)
  | refine TotP.bind (Q13 _ 2 (by omega) (by omega)) (fun v hv => TotP.chk (Q3e hv) (TotP.chk (by rw [Lu]; omega) ?_))
  | refine TotP.chk (by rw [Lu]; omega) ?_
  | refine TotP.cond (fun _ => ?_) (fun _ => ?_)
theorem Qhb : TotP (fun N => Z6 N c) (fun r => Cd (B + 70000) r.2) := by
 have hz := h.zero; have hd := h.d; have hn := h.nm; have ha := h.da; have ho := h.ou;unfold Z6;refine TotP.bind (Qdy _) (fun w _ => ?_);rw [hz]
 repeat' first
  | exact TotP.ret ⟨hd, by (first | (simp only [Ly]; omega) | (dsimp only; omega) | omega), by (first | (simp only [Ly]; omega) | (dsimp only; omega) | omega), by (first | (simp only [Lr, Lx]; omega) | (dsimp only; omega) | omega)⟩
  | refine TotP.cond (fun e => absurd e Lh) (fun _ => ?_)
  | refine TotP.bind (Q13 _ 1 (by omega) (by omega)) (fun v hv => TotP.chk (Q3e hv) (TotP.chk (by rw [Lu]; omega) ?_))
  | refine TotP.chk (by rw [Lu]; omega) ?_
  | refine TotP.cond (fun _ => ?_) (fun _ => ?_)
theorem Qg1 : TotP (fun N => Z0 N c) (fun r => Cd (B + 70000) r.2) := by
 have hz := h.zero; have hd := h.d; have hn := h.nm; have ha := h.da; have ho := h.ou;unfold Z0;rw [hz];refine TotP.cond (fun e => absurd e Lh) (fun _ => ?_)
 refine TotP.cond (fun _ => ?_) (fun _ => .ret ⟨hd, by (first | (simp only [Ly]; omega) | (dsimp only; omega) | omega), by (first | (simp only [Ly]; omega) | (dsimp only; omega) | omega), by (first | (simp only [Lr, Lx]; omega) | (dsimp only; omega) | omega)⟩)
 refine TotP.cond (fun _ => .ret ⟨hd, by (first | (simp only [Ly]; omega) | (dsimp only; omega) | omega), by (first | (simp only [Ly]; omega) | (dsimp only; omega) | omega), by (first | (simp only [Lr, Lx]; omega) | (dsimp only; omega) | omega)⟩) (fun _ => ?_)
 exact TotP.chk (by rw [Lu]; omega) (.ret ⟨hd, by (first | (simp only [Ly]; omega) | (dsimp only; omega) | omega), by (first | (simp only [Ly]; omega) | (dsimp only; omega) | omega), by (first | (simp only [Lr, Lx]; omega) | (dsimp only; omega) | omega)⟩)
theorem Qpj : TotP (fun N => Y9 N c) (fun r => Cd (B + 70000) r.2) := by
 have hz := h.zero; have hd := h.d; have hn := h.nm; have ha := h.da; have ho := h.ou;unfold Y9;rw [hz];refine TotP.cond (fun e => absurd e Lh) (fun _ => ?_)
 refine TotP.cond (fun _ => ?_) (fun _ => .ret ⟨hd, by (first | (simp only [Ly]; omega) | (dsimp only; omega) | omega), by (first | (simp only [Ly]; omega) | (dsimp only; omega) | omega), by (first | (simp only [Lr, Lx]; omega) | (dsimp only; omega) | omega)⟩)
 refine TotP.cond (fun _ => .ret ⟨hd, by (first | (simp only [Ly]; omega) | (dsimp only; omega) | omega), by (first | (simp only [Ly]; omega) | (dsimp only; omega) | omega), by (first | (simp only [Lr, Lx]; omega) | (dsimp only; omega) | omega)⟩) (fun _ => ?_)
 exact TotP.chk (by rw [Lu]; omega) (.ret ⟨hd, by (first | (simp only [Ly]; omega) | (dsimp only; omega) | omega), by (first | (simp only [Ly]; omega) | (dsimp only; omega) | omega), by (first | (simp only [Lr, Lx]; omega) | (dsimp only; omega) | omega)⟩)
end
section
variable {B : Nat} {c : Q3} (h : Cd B c) (hB : B ≤ 1000000)
include h hB
attribute [local irreducible] Zv Y8 Yi Y3 Zh Zs Qt Z6 Z0 Y9
theorem Qpu : TotP (fun N => X4 N c) (fun r => Cd (B + 140000) r.2) := by
 have hz := h.zero;unfold X4;rw [hz]
 repeat' first
  | exact TotP.ret (Cd.mono (by assumption) (by omega))
  | refine TotP.cond (fun e => absurd e Lh) (fun _ => ?_)
  | refine TotP.cond (fun _ => ?_) (fun _ => ?_)
  | refine TotP.bind (Qhb (by assumption) (by omega)) (fun v hv => ?_)
  | refine TotP.bind (Qg1 (by assumption) (by omega)) (fun v hv => ?_)
theorem Qmz : TotP (fun N => Yq N c) (fun r => Cd (B + 140000) r.2) := by
 unfold Yq
 repeat' first
  | exact TotP.ret (Cd.mono (by assumption) (by omega))
  | refine TotP.cond (fun _ => ?_) (fun _ => ?_)
  | refine TotP.bind (Qry (by assumption) (by omega)) (fun v hv => ?_)
  | refine TotP.bind (Qg1 (by assumption) (by omega)) (fun v hv => ?_)
theorem Qfk : TotP (fun N => Yo N c) (fun r => Cd (B + 140000) r.2) := by
 have hz := h.zero;unfold Yo;rw [hz];refine TotP.cond (fun e => absurd e Lh) (fun _ => ?_);refine TotP.cond (fun _ => ?_) (fun _ => ?_)
 ·refine TotP.bind (Ql0 h (by omega)) (fun v hv => ?_);refine TotP.cond (fun _ => .ret ?_) (fun _ => .ret (hv.mono (by omega)));exact ⟨hv.d, hv.nm, hv.da, Ms hv.ou (by omega)⟩
 refine TotP.cond (fun _ => .ret ?_) (fun _ => .ret (h.mono (by omega)));exact ⟨h.d, h.nm, h.da, Ms h.ou (by omega)⟩
end
section
variable {B : Nat} {c : Q3} (h : Cd B c) (hB : B ≤ 1000)
include h hB
attribute [local irreducible] Zv Y8 Yi Y3 Zh Zs Qt Z6 Z0 Y9 X4 Yq Yo
theorem Qaa : TotP (fun N => Zw N c) (fun r => Cd (B + 700000) r.2) := by
 have l0 : TotP (fun N => X1 N c N) (fun r => Cd (B + 700000) r.2) := ⟨((), c), h.mono (by omega), 1, fun N hN => by obtain ⟨M, rfl⟩ : ∃ M, N = M + 1 := ⟨N - 1, by omega⟩; rfl⟩;unfold Zw
 repeat' first
  | exact TotP.ret (Cd.mono (by assumption) (by omega))
  | exact l0
  | refine TotP.cond (fun _ => ?_) (fun _ => ?_)
  | refine TotP.bind (Qik (by assumption) (by omega)) (fun v hv => ?_)
  | refine TotP.bind (Ql0 (by assumption) (by omega)) (fun v hv => ?_)
  | refine TotP.bind (Qku (by assumption) (by omega)) (fun v hv => ?_)
  | refine TotP.bind (Qf7 (by assumption) (by omega)) (fun v hv => ?_)
  | refine TotP.bind (Qpn (by assumption) (by omega)) (fun v hv => ?_)
  | refine TotP.bind (Qry (by assumption) (by omega)) (fun v hv => ?_)
  | refine TotP.bind (Qt2 (by assumption) (by omega)) (fun v hv => ?_)
  | refine TotP.bind (Qhb (by assumption) (by omega)) (fun v hv => ?_)
  | refine TotP.bind (Qg1 (by assumption) (by omega)) (fun v hv => ?_)
  | refine TotP.bind (Qpj (by assumption) (by omega)) (fun v hv => ?_)
  | refine TotP.bind (Qpu (by assumption) (by omega)) (fun v hv => ?_)
  | refine TotP.bind (Qmz (by assumption) (by omega)) (fun v hv => ?_)
  | refine TotP.bind (Qfk (by assumption) (by omega)) (fun v hv => ?_)
end
structure OkM (m : Um) : Prop where
 nm : m.Name.length ≤ 70000
 da : m.Data.length ≤ 70000
section
variable {m : Um} (h : OkM m)
include h
theorem cd0 (d : Int) (hd : d = 1 ∨ d = 2) : Cd 0 ⟨d, m, [], false⟩ := ⟨hd, h.nm, h.da, Ln 0⟩
theorem Qht : TotP (fun N => Vh N m) (fun l => l.length ≤ 700000) := by
 unfold Vh;exact TotP.bind (Qaa (cd0 h 1 (.inl rfl)) (by omega)) (fun v hv => .ret (by have := hv.ou; rw [Lx]; omega))
end
theorem Qel (k r : Int) : TotP (fun N => Xn N k r) (fun x => x.1.length ≤ 100) := by
 have h1 : Any (fun N => Wx N k) := by
  unfold Wx
  repeat' first
   | exact TotP.ret trivial
   | refine TotP.cond (fun _ => ?_) (fun _ => ?_)
 unfold Xn;refine TotP.bind h1 (fun _ _ => ?_)
 repeat' first
  | exact TotP.ret (by simp only [Ly, Lr]; omega)
  | refine TotP.bind (Q8n _ _) (fun v hv => ?_)
  | refine TotP.chk (by rw [Lu]; (first | omega | (simp only [Lr]; omega))) ?_
  | refine TotP.cond (fun _ => ?_) (fun _ => ?_)
section
variable {m : Um} (h : OkM m)
include h
theorem Qis : Any (fun N => Jh N m) := by
 have hm := ml7; have hn := h.nm
 have h1 : Any (fun N => U5 N m.Type') := by
  unfold U5 Wx;refine TotP.bind (V := fun _ => True) ?_ (fun _ _ => TotP.cond (fun _ => .ret trivial) (fun _ => .ret trivial))
  repeat' first
   | exact TotP.ret trivial
   | refine TotP.cond (fun _ => ?_) (fun _ => ?_)
 have h2 : Any (fun N => Gt N m.Type') := by
  unfold Gt
  repeat' first
   | exact TotP.ret trivial
   | refine TotP.cond (fun _ => ?_) (fun _ => ?_)
 have h3 : Any (fun N => Vk N m) := by
  unfold Vk
  repeat' first
   | exact TotP.ret trivial
   | refine TotP.cond (fun _ => ?_) (fun _ => ?_)
 have hN : ∀ s : List UInt8, s.length ≤ 70000 → Any (fun N => W6 N s) := fun s hs => Qey (Q83 _ (by omega));have hF : Any (fun N => V3 N m.Name) := Qih _ hn;have hV : ∀ s, Any (fun N => W9 N s) := fun s => Qey (Qe4 s)
 have h4 : ∀ i, Any (fun N => Yu N i) := fun i => by
  unfold Yu;refine TotP.cond (fun _ => .ret trivial) (fun _ => TotP.cond (fun _ => .ret trivial) (fun _ => ?_));refine TotP.bind (Q8n _ _) (fun v hv => ?_);refine TotP.bind (hN v (by omega)) (fun _ _ => ?_);exact TotP.cond (fun _ => .ret trivial) (fun _ => .ret trivial)
 have h5 : Any (fun N => Wc N m) := by
  unfold Wc
  repeat' first
   | exact TotP.ret trivial
   | refine TotP.cond (fun _ => ?_) (fun _ => ?_)
   | refine TotP.bind (by first | exact h4 _) (fun _ _ => ?_)
 have h6 : Any (fun N => Uf N m) := by
  unfold Uf
  repeat' first
   | exact TotP.ret trivial
   | refine TotP.cond (fun _ => ?_) (fun _ => ?_)
   | refine TotP.bind (by first | exact hN _ hn | exact hF | exact hV _) (fun _ _ => ?_)
 have h7 := (Qaa (cd0 h 2 (.inr rfl)) (by omega)).any;have h8 := (Qht h).any;have h9 : ∀ a b, Any (fun N => Xn N a b) := fun a b => (Qel a b).any;have h10 := Qnm m.Type' m.Flags;unfold Jh
 repeat' first
  | exact TotP.ret trivial
  | refine TotP.cond (fun _ => ?_) (fun _ => ?_)
  | refine TotP.bind (by first | exact h1 | exact h10 | exact h2 | exact h7 | exact h3 | exact h5 | exact h6 | exact h8 | exact h9 _ _) (fun _ _ => ?_)
theorem Q6q : TotP (fun N => Uj N m) (fun r => r.1.length ≤ 800000) := by
 unfold Uj;refine TotP.bind (Qis h) (fun _ _ => TotP.cond (fun _ => .ret (by simp)) (fun _ => ?_));refine TotP.bind (Qht h) (fun v hv => ?_);refine TotP.bind (Qel _ _) (fun w hw => TotP.cond (fun _ => .ret (by simp)) (fun _ => ?_));exact TotP.chk (by rw [Lu]; omega) (.ret (by simp only [Lr]; omega))
end
structure Qsh (d : Z9) : Prop where
 hops : d.Hops.length ≤ 30
 node : ∀ x ∈ d.Hops, x.Node.length ≤ 300
 msg : OkM d.Msg
section
variable {d : Z9} (h : Qsh d) (l : Us)
include h
theorem Qil (v : List UInt8 × Int) (hv : v.1.length ≤ 800000) : Any (fun N => X2 N d l v N [] 0) := by
 have hc := h.hops;refine Q60 (L := fun N n (q : List UInt8 × Int) => X2 N d l v n q.1 q.2) (Q := fun _ => True) (fun q => ∃ i : Nat, q.2 = (i : Int) ∧ i ≤ d.Hops.length ∧ q.1.length ≤ i * 400) (fun q => d.Hops.length - q.2.toNat) ?_ ([], 0) ⟨0, rfl, by omega, by simp⟩
 rintro ⟨o, s⟩ ⟨i, hs, hi, hl⟩
 simp only at hs hl
 subst hs;show Stp _ _ _ (fun N n => cond (Q7 .lss (i : Int) ((Qd Uh.cells d.Hops).length : Int)) _ _);rw [Qh, Z2];dsimp only;refine Stp.cond (fun hx => ?_) (fun _ => Stp.cond (fun _ => Stp.ret trivial) (fun _ => Stp.chk (by rw [Lu]; omega) (Stp.ret trivial)));have hx := of_decide_eq_true hx
 have hi : i < d.Hops.length := by omega
 refine Stp.idx (Z8 hi) ?_;have hf := h.node _ (Mv hi);generalize d.Hops[i] = y at hf
 have e1 : wrap .i64 ((i : Int) + 1) = ((i + 1 : Nat) : Int) := by rw [w64 _ (by omega)]; omega
 refine Stp.bind (Qki y hf) (fun w hw => ?_);refine Stp.chk (by rw [Lu]; omega) ?_;rw [e1];exact Stp.go (L := fun N n (q : List UInt8 × Int) => X2 N d l v n q.1 q.2) (o ++ w, ((i + 1 : Nat) : Int)) ⟨⟨i + 1, rfl, by omega, by simp only [Lr]; omega⟩, by simp only [Md]; omega⟩
theorem Qb4 (v : List UInt8 × Int) (hv : v.1.length ≤ 800000) : Any (fun N => X3 N d l v N [] 0) := by
 have hc := h.hops;refine Q60 (L := fun N n (q : List UInt8 × Int) => X3 N d l v n q.1 q.2) (Q := fun _ => True) (fun q => ∃ i : Nat, q.2 = (i : Int) ∧ i ≤ d.Hops.length ∧ q.1.length ≤ i * 400) (fun q => d.Hops.length - q.2.toNat) ?_ ([], 0) ⟨0, rfl, by omega, by simp⟩
 rintro ⟨o, s⟩ ⟨i, hs, hi, hl⟩
 simp only at hs hl
 subst hs;show Stp _ _ _ (fun N n => cond (Q7 .lss (i : Int) ((Qd Uh.cells d.Hops).length : Int)) _ _);rw [Qh, Z2];dsimp only;refine Stp.cond (fun hx => ?_) (fun _ => Stp.cond (fun _ => Stp.ret trivial) (fun _ => Stp.chk (by rw [Lu]; omega) (Stp.ret trivial)));have hx := of_decide_eq_true hx
 have hi : i < d.Hops.length := by omega
 refine Stp.idx (Z8 hi) ?_;have hf := h.node _ (Mv hi);generalize d.Hops[i] = y at hf
 have e1 : wrap .i64 ((i : Int) + 1) = ((i + 1 : Nat) : Int) := by rw [w64 _ (by omega)]; omega
 refine Stp.bind (Qki y hf) (fun w hw => ?_);refine Stp.chk (by rw [Lu]; omega) ?_;rw [e1];exact Stp.go (L := fun N n (q : List UInt8 × Int) => X3 N d l v n q.1 q.2) (o ++ w, ((i + 1 : Nat) : Int)) ⟨⟨i + 1, rfl, by omega, by simp only [Lr]; omega⟩, by simp only [Md]; omega⟩
theorem Qks : Any (fun N => Vv N d l) := by
 have hc := h.hops
 have h0 : Any (fun N => Ys N d l N 0) := by
  refine Q4h (L := fun N n i => Ys N d l n i) d.Hops.length (fun _ => True) (fun i hi _ => ?_) (fun _ => ?_) trivial
  ·show Stp _ _ _ (fun N n => cond (Q7 .lss (i : Int) ((Qd Uh.cells d.Hops).length : Int)) _ _);refine Stp.cond (fun _ => ?_) (fun _ => ?_)
   ·refine Stp.idx (Z8 hi) ?_;refine Stp.bind (Qm4 _) (fun _ _ => ?_);refine Stp.cond (fun _ => ?_) (fun _ => ?_)
    ·refine Stp.cond (fun _ => Stp.ret trivial) (fun _ => ?_);refine Stp.fin (TotP.bind (Q6q h.msg) (fun v hv => ?_));exact TotP.cond (fun _ => .ret trivial) (fun _ => Qil h l v hv)
    rw [w64 _ (by omega)];exact Stp.go (L := fun N n i => Ys N d l n i) _ ⟨by omega, trivial⟩
   refine Stp.fin (TotP.bind (Q6q h.msg) (fun v hv => ?_));exact TotP.cond (fun _ => .ret trivial) (fun _ => Qb4 h l v hv)
  show Stp _ _ _ (fun N n => cond (Q7 .lss (d.Hops.length : Int) ((Qd Uh.cells d.Hops).length : Int)) _ _);rw [Qh, Z2, decide_eq_false (by omega)];refine Stp.fin (TotP.bind (Q6q h.msg) (fun v hv => ?_));exact TotP.cond (fun _ => .ret trivial) (fun _ => Qb4 h l v hv)
 have h1 : Any (fun N => Uu N l) := by
  unfold Uu
  repeat' first
   | exact TotP.ret trivial
   | refine TotP.cond (fun _ => ?_) (fun _ => ?_)
 unfold Vv Gj;refine TotP.bind (V := fun _ => True) ?_ (fun _ _ => .ret trivial);refine TotP.bind h1 (fun _ _ => ?_);exact TotP.cond (fun _ => .ret trivial) (fun _ => TotP.cond (fun _ => .ret trivial) (fun _ => h0))
end
end
end Go.Av
namespace Go.Av
noncomputable section
theorem Qqj (d : Z9) : TotP (fun N => X7 N d) (fun v => v = true → Qsh d) := by
 refine TotP.cond (fun _ => .ret (fun h => nomatch h)) (fun h0 => ?_);rw [Qh, Q0x] at h0;have h0 := of_decide_eq_false h0;refine TotP.bind (V := fun v => v = true → OkM d.Msg) ?_ (fun v hv => ?_)
 ·show TotP (fun N => cond (Q7 .leq (d.Msg.Name.length : Int) 70000) _ _) _;rw [Q02, Q02];refine TotP.cond (fun h1 => .ret (fun h2 => ?_)) (fun _ => .ret (fun h => nomatch h));have h1 := of_decide_eq_true h1; have h2 := of_decide_eq_true h2;exact ⟨by omega, by omega⟩
 refine TotP.cond (fun _ => .ret (fun h => nomatch h)) (fun hn => ?_);have hM := hv (by simpa using hn);refine Q4h (L := fun N n s => Z7 N d n s) d.Hops.length (fun i => ∀ j (h : j < d.Hops.length), j < i → (d.Hops[j]).Node.length ≤ 300) (fun i hi hj => ?_) (fun hj => ?_) (fun j _ hj => by omega)
 ·show Stp _ _ _ (fun N n => cond (Q7 .lss (i : Int) ((Qd Uh.cells d.Hops).length : Int)) _ _);rw [Qh, Z2];refine Stp.cond (fun _ => ?_) (fun h => by have := of_decide_eq_false h; omega);refine Stp.idx (Z8 hi) ?_;rw [Q0x];refine Stp.cond (fun _ => Stp.ret (fun h => nomatch h)) (fun h1 => ?_);have h1 := of_decide_eq_false h1;rw [w64 _ (by omega)];refine Stp.go (L := fun N n s => Z7 N d n s) _ ⟨by omega, fun j hj' hji => ?_⟩
  by_cases e : j = i
  ·subst e; omega
  exact hj j hj' (by omega)
 show Stp _ _ _ (fun N n => cond (Q7 .lss (d.Hops.length : Int) ((Qd Uh.cells d.Hops).length : Int)) _ _);rw [Qh, Z2];refine Stp.cond (fun h => by have := of_decide_eq_true h; omega) (fun _ => Stp.ret (fun _ => ⟨by omega, fun x hx => ?_, hM⟩));obtain ⟨j, hj', rfl⟩ := Bo hx;exact hj j hj' hj'
structure LE (e : Wa) : Prop where
 topic : e.Topic.length ≤ 2000
 payload : e.Payload.length ≤ 2000
 props : OkP e.Props
 pk : Qre e.Packet
 dg : Qsh ⟨e.Hops, e.Msg⟩
 fb : FB e.Frame
end
end Go.Av
namespace Go.Av
noncomputable section
structure Qui (a : Wa) : Prop where
 props : a.Props.length ≤ maxLen
 hops : a.Hops.length ≤ maxLen
 pk : Qto a.Packet
 fr : Qa.szs a.Frame.Values < 700000000
structure PubT (e : Wa) (c t b : Bool) : Prop where
 known : e.Proto = 1 ∨ e.Proto = 2 ∨ e.Proto = 3 ∨ e.Proto = 4
 kind : e.Kind = 1
 qos : (0 ≤ e.QoS ∧ e.QoS ≤ 2) ∨ (e.Proto = 3 ∧ e.QoS = -1)
 id : 0 ≤ e.ID ∧ e.ID ≤ 65535
 cid : c = decide (e.ID ≠ 0)
 dup : e.Dup = true → c = true ∨ e.Proto = 3
 props : 0 < e.Props.length → e.Proto = 2
 ty : e.Proto = 3 → t = true
 ty2 : e.Proto ≠ 3 → e.Type' = 0 ∧ e.Hops.length = 0
 ch : 0 ≤ e.Channel ∧ e.Channel ≤ 65535
 ch4 : e.Channel ≠ 0 → e.Proto = 4
 bare : b = true
section
end
end
end Go.Av
namespace Go.Av
noncomputable section
theorem Q3c (a b : List G0) (ha : a.length ≤ maxLen) : TotP (fun N => Yj N a b) (fun v => v = true ↔ a = b) := by
 unfold Yj;rw [Qh, Qh, Q03];refine TotP.cond (fun h => .ret ⟨fun h => (by cases h), fun e => ?_⟩) (fun h => ?_)
 ·have := of_decide_eq_true h; subst e; exact absurd rfl this
 have h := of_decide_eq_false h
 have hab : a.length = b.length := by omega
 refine Qgq (L := fun N n i => Yh N a b n i) (eq := fun x y => ((x.ID : Int) == y.ID) && (((x.N' : Int) == y.N') && (((x.Text : List UInt8) == y.Text) && (((x.Value : List UInt8) == y.Value) && true)))) (fun _ _ => Quj) hab ha (fun N n i h h' => ?_) (fun N n => ?_)
 ·show cond (Q7 .lss (i : Int) ((Qd G0.cells a).length : Int)) ((idx a (i : Int)).bind _) _ = _;rw [Qh, Z2, decide_eq_true (by omega), Z8 h, Z8 h'];rfl
 show cond (Q7 .lss (a.length : Int) ((Qd G0.cells a).length : Int)) _ _ = _;rw [Qh, Z2, decide_eq_false (by omega)]; rfl
theorem Qf9 (a b : List Uh) (ha : a.length ≤ maxLen) : TotP (fun N => Xz N a b) (fun v => v = true ↔ a = b) := by
 unfold Xz;rw [Qh, Qh, Q03];refine TotP.cond (fun h => .ret ⟨fun h => (by cases h), fun e => ?_⟩) (fun h => ?_)
 ·have := of_decide_eq_true h; subst e; exact absurd rfl this
 have h := of_decide_eq_false h
 have hab : a.length = b.length := by omega
 refine Qgq (L := fun N n i => Yg N a b n i) (eq := fun x y => ((x.Radius : Int) == y.Radius) && (((x.Node : List UInt8) == y.Node) && true)) (fun _ _ => Qxo) hab ha (fun N n i h h' => ?_) (fun N n => ?_)
 ·show cond (Q7 .lss (i : Int) ((Qd Uh.cells a).length : Int)) ((idx a (i : Int)).bind _) _ = _;rw [Qh, Z2, decide_eq_true (by omega), Z8 h, Z8 h'];rfl
 show cond (Q7 .lss (a.length : Int) ((Qd Uh.cells a).length : Int)) _ _ = _;rw [Qh, Z2, decide_eq_false (by omega)]; rfl
theorem Q9z (a b : List Vc) (ha : a.length ≤ maxLen) : TotP (fun N => X6 N a b) (fun v => v = true ↔ a = b) := by
 unfold X6;rw [Qh, Qh, Q03];refine TotP.cond (fun h => .ret ⟨fun h => (by cases h), fun e => ?_⟩) (fun h => ?_)
 ·have := of_decide_eq_true h; subst e; exact absurd rfl this
 have h := of_decide_eq_false h
 have hab : a.length = b.length := by omega
 refine Qgq (L := fun N n i => Zx N a b n i) (eq := fun x y => ((x.Topic : List UInt8) == y.Topic) && (((x.QoS : Int) == y.QoS) && (((x.NoLocal : Bool) == y.NoLocal) && (((x.AsPublished : Bool) == y.AsPublished) && (((x.Handling : Int) == y.Handling) && true))))) (fun _ _ => Qqx) hab ha (fun N n i h h' => ?_) (fun N n => ?_)
 ·show cond (Q7 .lss (i : Int) ((Qd Vc.cells a).length : Int)) ((idx a (i : Int)).bind _) _ = _;rw [Qh, Z2, decide_eq_true (by omega), Z8 h, Z8 h'];rfl
 show cond (Q7 .lss (a.length : Int) ((Qd Vc.cells a).length : Int)) _ _ = _;rw [Qh, Z2, decide_eq_false (by omega)]; rfl
theorem Qew (a b : List Int) (ha : a.length ≤ maxLen) : TotP (fun N => W3 N a b) (fun v => v = true ↔ a = b) := by
 unfold W3;rw [Qh, Qh, Q03];refine TotP.cond (fun h => .ret ⟨fun h => (by cases h), fun e => ?_⟩) (fun h => ?_)
 ·have := of_decide_eq_true h; subst e; exact absurd rfl this
 have h := of_decide_eq_false h
 have hab : a.length = b.length := by omega
 refine Qgq (L := fun N n i => Ye N a b n i) (eq := fun x y => Q7 .eql x y) (fun x y => by rw [Jn]; exact decide_eq_true_iff) hab ha (fun N n i h h' => ?_) (fun N n => ?_)
 ·show cond (Q7 .lss (i : Int) ((Qd (cI .i64) a).length : Int)) ((idx a (i : Int)).bind _) _ = _;rw [Qh, Z2, decide_eq_true (by omega), Z8 h, Z8 h'];simp only [Li, cond_true, Q03, Jn, decide_not]
 show cond (Q7 .lss (a.length : Int) ((Qd (cI .i64) a).length : Int)) _ _ = _;rw [Qh, Z2, decide_eq_false (by omega)]; rfl
theorem Qdw (a b : Xr) (h : Qto a) : TotP (fun N => Xw N a b) (fun v => v = true ↔ a = b) := by
 unfold Xw;simp only [Q03, Qnw];refine TotP.cond (fun g => .ret ⟨fun e => absurd e Lh, fun e => absurd g (by rw [e]; simp)⟩) (fun g => ?_)
 have e0 : a.Will.Topic = b.Will.Topic := by simpa using g
 clear g;refine TotP.cond (fun g => .ret ⟨fun e => absurd e Lh, fun e => absurd g (by rw [e]; simp)⟩) (fun g => ?_)
 have e1 : a.Will.Payload = b.Will.Payload := by simpa using g
 clear g;refine TotP.cond (fun g => .ret ⟨fun e => absurd e Lh, fun e => absurd g (by rw [e]; simp)⟩) (fun g => ?_)
 have e2 : a.Will.QoS = b.Will.QoS := by simpa using g
 clear g;refine TotP.cond (fun g => .ret ⟨fun e => absurd e Lh, fun e => absurd g (by rw [e]; simp)⟩) (fun g => ?_)
 have e3 : a.Will.Retain = b.Will.Retain := by simpa using g
 clear g;refine TotP.bind (Q3c _ _ h.wprops) (fun v hv => ?_);refine TotP.cond (fun g => .ret ⟨fun e => absurd e Lh, fun e => absurd (hv.2 (by rw [e])) (by simpa using g)⟩) (fun g => ?_);have e4 : a.Will.Props = b.Will.Props := hv.1 (by simpa using g);clear g hv;refine TotP.cond (fun g => .ret ⟨fun e => absurd e Lh, fun e => absurd g (by rw [e]; simp)⟩) (fun g => ?_)
 have e5 : a.Kind = b.Kind := by simpa using g
 clear g;refine TotP.cond (fun g => .ret ⟨fun e => absurd e Lh, fun e => absurd g (by rw [e]; simp)⟩) (fun g => ?_)
 have e6 : a.Dup = b.Dup := by simpa using g
 clear g;refine TotP.cond (fun g => .ret ⟨fun e => absurd e Lh, fun e => absurd g (by rw [e]; simp)⟩) (fun g => ?_)
 have e7 : a.Retain = b.Retain := by simpa using g
 clear g;refine TotP.cond (fun g => .ret ⟨fun e => absurd e Lh, fun e => absurd g (by rw [e]; simp)⟩) (fun g => ?_)
 have e8 : a.QoS = b.QoS := by simpa using g
 clear g;refine TotP.cond (fun g => .ret ⟨fun e => absurd e Lh, fun e => absurd g (by rw [e]; simp)⟩) (fun g => ?_)
 have e9 : a.ID = b.ID := by simpa using g
 clear g;refine TotP.cond (fun g => .ret ⟨fun e => absurd e Lh, fun e => absurd g (by rw [e]; simp)⟩) (fun g => ?_)
 have e10 : a.Topic = b.Topic := by simpa using g
 clear g;refine TotP.cond (fun g => .ret ⟨fun e => absurd e Lh, fun e => absurd g (by rw [e]; simp)⟩) (fun g => ?_)
 have e11 : a.Payload = b.Payload := by simpa using g
 clear g;refine TotP.cond (fun g => .ret ⟨fun e => absurd e Lh, fun e => absurd g (by rw [e]; simp)⟩) (fun g => ?_)
 have e12 : a.Clean = b.Clean := by simpa using g
 clear g;refine TotP.cond (fun g => .ret ⟨fun e => absurd e Lh, fun e => absurd g (by rw [e]; simp)⟩) (fun g => ?_)
 have e13 : a.KeepAlive = b.KeepAlive := by simpa using g
 clear g;refine TotP.cond (fun g => .ret ⟨fun e => absurd e Lh, fun e => absurd g (by rw [e]; simp)⟩) (fun g => ?_)
 have e14 : a.Client = b.Client := by simpa using g
 clear g;refine TotP.cond (fun g => .ret ⟨fun e => absurd e Lh, fun e => absurd g (by rw [e]; simp)⟩) (fun g => ?_)
 have e15 : a.HasUser = b.HasUser := by simpa using g
 clear g;refine TotP.cond (fun g => .ret ⟨fun e => absurd e Lh, fun e => absurd g (by rw [e]; simp)⟩) (fun g => ?_)
 have e16 : a.User = b.User := by simpa using g
 clear g;refine TotP.cond (fun g => .ret ⟨fun e => absurd e Lh, fun e => absurd g (by rw [e]; simp)⟩) (fun g => ?_)
 have e17 : a.HasPass = b.HasPass := by simpa using g
 clear g;refine TotP.cond (fun g => .ret ⟨fun e => absurd e Lh, fun e => absurd g (by rw [e]; simp)⟩) (fun g => ?_)
 have e18 : a.Pass = b.Pass := by simpa using g
 clear g;refine TotP.cond (fun g => .ret ⟨fun e => absurd e Lh, fun e => absurd g (by rw [e]; simp)⟩) (fun g => ?_)
 have e19 : a.HasWill = b.HasWill := by simpa using g
 clear g;refine TotP.cond (fun g => .ret ⟨fun e => absurd e Lh, fun e => absurd g (by rw [e]; simp)⟩) (fun g => ?_)
 have e20 : a.Session = b.Session := by simpa using g
 clear g;refine TotP.cond (fun g => .ret ⟨fun e => absurd e Lh, fun e => absurd g (by rw [e]; simp)⟩) (fun g => ?_)
 have e21 : a.Code = b.Code := by simpa using g
 clear g;refine TotP.bind (Qew _ _ h.codes) (fun v hv => ?_);refine TotP.cond (fun g => ?_) (fun g => .ret ⟨fun e => absurd e Lh, fun e => absurd (hv.2 (by rw [e])) (by rw [g]; decide)⟩);have e22 : a.Codes = b.Codes := hv.1 g;clear g hv;refine TotP.bind (Q9z _ _ h.filters) (fun v hv => ?_);refine TotP.cond (fun g => ?_) (fun g => .ret ⟨fun e => absurd e Lh, fun e => absurd (hv.2 (by rw [e])) (by rw [g]; decide)⟩);have e23 : a.Filters = b.Filters := hv.1 g;clear g hv;refine TotP.bind (Q3c _ _ h.props) (fun v hv => .ret ⟨fun g => ?_, fun e => hv.2 (by rw [e])⟩);have el : a.Props = b.Props := hv.1 g;obtain ⟨a0, a1, a2, a3, a4, a5, a6, a7, a8, a9, a10, a11, a12, a13, a14, ⟨w0, w1, w2, w3, w4⟩, a16, a17, a18, a19, a20⟩ := a;obtain ⟨b0, b1, b2, b3, b4, b5, b6, b7, b8, b9, b10, b11, b12, b13, b14, ⟨x0, x1, x2, x3, x4⟩, b16, b17, b18, b19, b20⟩ := b
 simp_all
theorem Qsg (x y : Um) : (((x.Type' : Int) == y.Type') && (((x.Flags.Dup : Bool) == y.Flags.Dup) && (((x.Flags.QoS : Int) == y.Flags.QoS) && (((x.Flags.Retain : Bool) == y.Flags.Retain) && (((x.Flags.Will : Bool) == y.Flags.Will) && (((x.Flags.Clean : Bool) == y.Flags.Clean) && (((x.Flags.Type' : Int) == y.Flags.Type') && (((x.Gateway : Int) == y.Gateway) && (((x.Radius : Int) == y.Radius) && (((x.Time : Int) == y.Time) && (((x.Timed : Bool) == y.Timed) && (((x.TopicID : Int) == y.TopicID) && (((x.MsgID : Int) == y.MsgID) && (((x.Code : Int) == y.Code) && (((x.Name : List UInt8) == y.Name) && (((x.Data : List UInt8) == y.Data) && true)))))))))))))))) = true ↔ x = y := by
 obtain ⟨a, ⟨b, c, d, e, f, g⟩, h, i, j, k, l, m, n, o, p⟩ := x;obtain ⟨a', ⟨b', c', d', e', f', g'⟩, h', i', j', k', l', m', n', o', p'⟩ := y;simp [and_assoc]
theorem Q5g (a b : Wa) (h : Qui a) : TotP (fun N => X8 N a b) (fun v => v = true ↔ a = b) := by
 unfold X8;simp only [Jn, Q5p];refine TotP.cond (fun g => ?_) (fun g => .ret ⟨fun e => absurd e Lh, fun e => absurd g (by rw [e]; simp)⟩)
 have e24 : a.Proto = b.Proto := by simpa using g
 clear g;refine TotP.cond (fun g => ?_) (fun g => .ret ⟨fun e => absurd e Lh, fun e => absurd g (by rw [e]; simp)⟩)
 have e25 : a.Kind = b.Kind := by simpa using g
 clear g;refine TotP.cond (fun g => ?_) (fun g => .ret ⟨fun e => absurd e Lh, fun e => absurd g (by rw [e]; simp)⟩)
 have e26 : a.Topic = b.Topic := by simpa using g
 clear g;refine TotP.cond (fun g => ?_) (fun g => .ret ⟨fun e => absurd e Lh, fun e => absurd g (by rw [e]; simp)⟩)
 have e27 : a.Payload = b.Payload := by simpa using g
 clear g;refine TotP.cond (fun g => ?_) (fun g => .ret ⟨fun e => absurd e Lh, fun e => absurd g (by rw [e]; simp)⟩)
 have e28 : a.QoS = b.QoS := by simpa using g
 clear g;refine TotP.cond (fun g => ?_) (fun g => .ret ⟨fun e => absurd e Lh, fun e => absurd g (by rw [e]; simp)⟩)
 have e29 : a.Retain = b.Retain := by simpa using g
 clear g;refine TotP.cond (fun g => ?_) (fun g => .ret ⟨fun e => absurd e Lh, fun e => absurd g (by rw [e]; simp)⟩)
 have e30 : a.Dup = b.Dup := by simpa using g
 clear g;refine TotP.cond (fun g => ?_) (fun g => .ret ⟨fun e => absurd e Lh, fun e => absurd g (by rw [e]; simp)⟩)
 have e31 : a.ID = b.ID := by simpa using g
 clear g;refine TotP.bind (Q3c _ _ h.props) (fun v hv => ?_);refine TotP.cond (fun g => ?_) (fun g => .ret ⟨fun e => absurd e Lh, fun e => absurd (hv.2 (by rw [e])) (by rw [g]; decide)⟩);have e32 : a.Props = b.Props := hv.1 g;clear g hv;refine TotP.cond (fun g => ?_) (fun g => .ret ⟨fun e => absurd e Lh, fun e => absurd g (by rw [e]; simp)⟩)
 have e33 : a.Type' = b.Type' := by simpa using g
 clear g;refine TotP.bind (Qf9 _ _ h.hops) (fun v hv => ?_);refine TotP.cond (fun g => ?_) (fun g => .ret ⟨fun e => absurd e Lh, fun e => absurd (hv.2 (by rw [e])) (by rw [g]; decide)⟩);have e34 : a.Hops = b.Hops := hv.1 g;clear g hv;refine TotP.cond (fun g => ?_) (fun g => .ret ⟨fun e => absurd e Lh, fun e => absurd g (by rw [e]; simp)⟩)
 have e35 : a.Channel = b.Channel := by simpa using g
 clear g;refine TotP.bind (Qdw _ _ h.pk) (fun v hv => ?_);refine TotP.cond (fun g => ?_) (fun g => .ret ⟨fun e => absurd e Lh, fun e => absurd (hv.2 (by rw [e])) (by rw [g]; decide)⟩);have e36 : a.Packet = b.Packet := hv.1 g;clear g hv;refine TotP.cond (fun g => ?_) (fun g => .ret ⟨fun e => absurd e Lh, fun e => absurd ((Qsg a.Msg b.Msg).2 (by rw [e])) (by rw [g]; decide)⟩);have e37 : a.Msg = b.Msg := (Qsg _ _).1 g;clear g;refine TotP.bind (V := fun v => v = true ↔ a.Frame = b.Frame) ⟨decide (a.Frame = b.Frame), decide_eq_true_iff, 800000000, fun N hN => Qcw hN _ _ h.fr⟩ (fun v hv => .ret ⟨fun g => ?_, fun e => hv.2 (by rw [e])⟩);have el : a.Frame = b.Frame := hv.1 g;cases a; cases b
 simp_all
end
end Go.Av
namespace Go.Av
noncomputable section
open Go.Proofs
theorem Qxe (x : Nat) (h : x ≤ 9223372036854775807) : wrap .i64 (x : Int) = x := w64 _ (by omega)
theorem Qf1 (N : Nat) (s : List UInt8) (j : Nat) : Zb N s (j : Int) = some (if goes s j then (((at8 s j - 128 : Nat) : Int), true) else (0, false)) := by
 unfold Zb;rw [Q3k]
 by_cases hj : j < s.length
 ·have hb := De s[j];rw [decide_eq_false (show ¬ ((j : Int) ≥ (s.length : Int)) by omega), cond_false, Z8 hj, Li, Z2, Li, Q0x, Li];have e := Q4k hj
  by_cases h1 : at8 s j < 128
  ·rw [decide_eq_true (by omega), cond_true, if_neg (fun h => by have := h.2.1; omega)]
  rw [decide_eq_false (by omega), cond_false]
  by_cases h2 : at8 s j < 192
  ·rw [decide_eq_false (by omega), cond_false, if_pos ⟨hj, by omega, h2⟩, w64 ((s[j]).toNat : Int) (by omega), w64 _ (by omega)]
   congr 2; omega
  rw [decide_eq_true (by omega), cond_true, if_neg (fun h => h2 h.2.2)]
 rw [decide_eq_true (show ((j : Int) ≥ (s.length : Int)) by omega), cond_true, if_neg (fun h => hj h.1)]
theorem Qup (N : Nat) (s : List UInt8) (i n x k : Nat) (hk : k < 2) (hx : x < 1099511627776) (hi : i ≤ 4611686018427387904) : Qq N s (i : Int) (n + 1) (x : Int) (k : Int) =
  if goes s (i + k) then Qq N s (i : Int) n ((64 * x + (at8 s (i + k) - 128) : Nat) : Int) ((k + 1 : Nat) : Int) else some (0, 0) := by
 have hb := Q4d s (i + k);rw [Qq, Z2, decide_eq_true (by omega), cond_true, show wrap .i64 ((i : Int) + (k : Int)) = ((i + k : Nat) : Int) by rw [w64 _ (by omega)]; omega, Qf1, Li]
 by_cases g : goes s (i + k)
 ·rw [if_pos g, if_pos g];show Qq N s (i : Int) n (wrap .i64 (wrap .i64 (64 * (x : Int)) + ((at8 s (i + k) - 128 : Nat) : Int))) (wrap .i64 ((k : Int) + 1)) = _;rw [w64 (64 * (x : Int)) (by omega), w64 _ (by omega), w64 _ (by omega)]
  congr 1
 rw [if_neg g, if_neg g]; rfl
theorem Qsz (N : Nat) (s : List UInt8) (i n x : Nat) : Qq N s (i : Int) (n + 1) (x : Int) ((2 : Nat) : Int) = if 128 ≤ x ∧ Q6b x then some ((x : Int), 2) else some (0, 0) := by
 rw [Qq, Z2, decide_eq_false (by omega), cond_false, Z2, Q0x, Q3k, Q02];unfold Q6b
 by_cases h1 : x < 128
 ·rw [decide_eq_true (by omega), cond_true, if_neg (by omega)]
 rw [decide_eq_false (show ¬ ((x : Int) < 128) by omega), cond_false]
 by_cases h2 : x ≤ 1114111
 ·rw [decide_eq_false (show ¬ ((x : Int) > 1114111) by omega), cond_false]
  by_cases h3 : 55296 ≤ x
  ·rw [decide_eq_true (show ((x : Int) ≥ 55296) by omega), cond_true]
   by_cases h4 : x ≤ 57343
   ·rw [decide_eq_true (show ((x : Int) ≤ 57343) by omega), cond_true, if_neg (by omega)]
   rw [decide_eq_false (show ¬ ((x : Int) ≤ 57343) by omega), cond_false, if_pos (by omega)]
  rw [decide_eq_false (show ¬ ((x : Int) ≥ 55296) by omega), cond_false, if_pos (by omega)]
 rw [decide_eq_true (show ((x : Int) > 1114111) by omega), cond_true, if_neg (by omega)]
theorem Qrn (N : Nat) (s : List UInt8) (i n x k : Nat) (hk : k < 3) (hx : x < 1099511627776) (hi : i ≤ 4611686018427387904) : Qr N s (i : Int) (n + 1) (x : Int) (k : Int) =
  if goes s (i + k) then Qr N s (i : Int) n ((64 * x + (at8 s (i + k) - 128) : Nat) : Int) ((k + 1 : Nat) : Int) else some (0, 0) := by
 have hb := Q4d s (i + k);rw [Qr, Z2, decide_eq_true (by omega), cond_true, show wrap .i64 ((i : Int) + (k : Int)) = ((i + k : Nat) : Int) by rw [w64 _ (by omega)]; omega, Qf1, Li]
 by_cases g : goes s (i + k)
 ·rw [if_pos g, if_pos g];show Qr N s (i : Int) n (wrap .i64 (wrap .i64 (64 * (x : Int)) + ((at8 s (i + k) - 128 : Nat) : Int))) (wrap .i64 ((k : Int) + 1)) = _;rw [w64 (64 * (x : Int)) (by omega), w64 _ (by omega), w64 _ (by omega)]
  congr 1
 rw [if_neg g, if_neg g]; rfl
theorem Qt6 (N : Nat) (s : List UInt8) (i n x : Nat) : Qr N s (i : Int) (n + 1) (x : Int) ((3 : Nat) : Int) = if 2048 ≤ x ∧ Q6b x then some ((x : Int), 3) else some (0, 0) := by
 rw [Qr, Z2, decide_eq_false (by omega), cond_false, Z2, Q0x, Q3k, Q02];unfold Q6b
 by_cases h1 : x < 2048
 ·rw [decide_eq_true (by omega), cond_true, if_neg (by omega)]
 rw [decide_eq_false (show ¬ ((x : Int) < 2048) by omega), cond_false]
 by_cases h2 : x ≤ 1114111
 ·rw [decide_eq_false (show ¬ ((x : Int) > 1114111) by omega), cond_false]
  by_cases h3 : 55296 ≤ x
  ·rw [decide_eq_true (show ((x : Int) ≥ 55296) by omega), cond_true]
   by_cases h4 : x ≤ 57343
   ·rw [decide_eq_true (show ((x : Int) ≤ 57343) by omega), cond_true, if_neg (by omega)]
   rw [decide_eq_false (show ¬ ((x : Int) ≤ 57343) by omega), cond_false, if_pos (by omega)]
  rw [decide_eq_false (show ¬ ((x : Int) ≥ 55296) by omega), cond_false, if_pos (by omega)]
 rw [decide_eq_true (show ((x : Int) > 1114111) by omega), cond_true, if_neg (by omega)]
theorem Qpv (N : Nat) (s : List UInt8) (i n x k : Nat) (hk : k < 4) (hx : x < 1099511627776) (hi : i ≤ 4611686018427387904) : Qs N s (i : Int) (n + 1) (x : Int) (k : Int) =
  if goes s (i + k) then Qs N s (i : Int) n ((64 * x + (at8 s (i + k) - 128) : Nat) : Int) ((k + 1 : Nat) : Int) else some (0, 0) := by
 have hb := Q4d s (i + k);rw [Qs, Z2, decide_eq_true (by omega), cond_true, show wrap .i64 ((i : Int) + (k : Int)) = ((i + k : Nat) : Int) by rw [w64 _ (by omega)]; omega, Qf1, Li]
 by_cases g : goes s (i + k)
 ·rw [if_pos g, if_pos g];show Qs N s (i : Int) n (wrap .i64 (wrap .i64 (64 * (x : Int)) + ((at8 s (i + k) - 128 : Nat) : Int))) (wrap .i64 ((k : Int) + 1)) = _;rw [w64 (64 * (x : Int)) (by omega), w64 _ (by omega), w64 _ (by omega)]
  congr 1
 rw [if_neg g, if_neg g]; rfl
theorem Qs8 (N : Nat) (s : List UInt8) (i n x : Nat) : Qs N s (i : Int) (n + 1) (x : Int) ((4 : Nat) : Int) = if 65536 ≤ x ∧ Q6b x then some ((x : Int), 4) else some (0, 0) := by
 rw [Qs, Z2, decide_eq_false (by omega), cond_false, Z2, Q0x, Q3k, Q02];unfold Q6b
 by_cases h1 : x < 65536
 ·rw [decide_eq_true (by omega), cond_true, if_neg (by omega)]
 rw [decide_eq_false (show ¬ ((x : Int) < 65536) by omega), cond_false]
 by_cases h2 : x ≤ 1114111
 ·rw [decide_eq_false (show ¬ ((x : Int) > 1114111) by omega), cond_false]
  by_cases h3 : 55296 ≤ x
  ·rw [decide_eq_true (show ((x : Int) ≥ 55296) by omega), cond_true]
   by_cases h4 : x ≤ 57343
   ·rw [decide_eq_true (show ((x : Int) ≤ 57343) by omega), cond_true, if_neg (by omega)]
   rw [decide_eq_false (show ¬ ((x : Int) ≤ 57343) by omega), cond_false, if_pos (by omega)]
  rw [decide_eq_false (show ¬ ((x : Int) ≥ 55296) by omega), cond_false, if_pos (by omega)]
 rw [decide_eq_true (show ((x : Int) > 1114111) by omega), cond_true, if_neg (by omega)]
def ptF (q : Nat × Nat) : Int × Int := if q.1 = 65533 ∧ q.2 = 1 then (0, 0) else ((q.1 : Int), (q.2 : Int))
theorem Qdt {c w : Nat} (h : ¬ (c = 65533 ∧ w = 1)) : ptF (c, w) = ((c : Int), (w : Int)) := if_neg h
theorem Q2t : ptF (65533, 1) = (0, 0) := if_pos ⟨rfl, rfl⟩
def ptR (s : List UInt8) (i : Nat) : Int × Int := ptF (Q2s s i)
theorem Qmq (s : List UInt8) (i : Nat) (hi : i < s.length) (hs : s.length ≤ 4611686018427387904) (M : Nat) : X0 (M + 5) s (i : Int) = some (ptR s i) := by
 have hb := Q4d s i;have hb1 := Q4d s (i + 1);have hb2 := Q4d s (i + (1 + 1));have e := Q4k hi
 have hw : wrap .i64 ((s[i]).toNat : Int) = (at8 s i : Int) := by rw [← e]; exact Qxe _ (by omega)
 unfold X0;rw [Z8 hi, Li, hw];simp only [Z2, Q3k];unfold ptR Q2s
 by_cases c1 : at8 s i < 128
 ·rw [decide_eq_true (by omega), cond_true, if_pos c1, Qdt (by omega)];rfl
 rw [decide_eq_false (show ¬ ((at8 s i : Int) < 128) by omega), cond_false, if_neg c1]
 by_cases c2 : at8 s i < 192
 ·rw [decide_eq_false (show ¬ ((at8 s i : Int) ≥ 192) by omega), cond_false, decide_eq_false (show ¬ ((at8 s i : Int) ≥ 224) by omega), cond_false, decide_eq_false (show ¬ ((at8 s i : Int) ≥ 240) by omega), cond_false,
   if_neg (by omega), if_neg (by omega), if_neg (by omega), Q2t]
 rw [decide_eq_true (show ((at8 s i : Int) ≥ 192) by omega), cond_true]
 by_cases c3 : at8 s i < 224
 ·rw [decide_eq_true (show ((at8 s i : Int) < 224) by omega), cond_true, if_neg (c := 224 ≤ at8 s i ∧ _) (by omega), if_neg (c := 240 ≤ at8 s i ∧ _) (by omega)]
  have h0 : wrap .i64 ((at8 s i : Int) - 192) = ((at8 s i - 192 : Nat) : Int) := by rw [w64 _ (by omega)]; omega
  rw [h0, show (1 : Int) = ((1 : Nat) : Int) from rfl, Qup _ _ _ _ _ _ (by omega) (by omega) (by omega)]
  by_cases g1 : goes s (i + 1)
  ·rw [if_pos g1, show 1 + 1 = 2 from rfl, Qsz];have hg := g1.2
   by_cases c4 : 128 ≤ 64 * (at8 s i - 192) + (at8 s (i + 1) - 128)
   ·rw [if_pos ⟨c4, by unfold Q6b; omega⟩, if_pos ⟨by omega, c3, g1, c4⟩, Qdt (by omega)]; rfl
   rw [if_neg (fun h => c4 h.1), if_neg (fun h => c4 h.2.2.2), Q2t]
  rw [if_neg g1, if_neg (fun h => g1 h.2.2.1), Q2t]
 rw [decide_eq_false (show ¬ ((at8 s i : Int) < 224) by omega), cond_false, decide_eq_true (show ((at8 s i : Int) ≥ 224) by omega), cond_true, if_neg (c := 192 ≤ at8 s i ∧ _) (by omega)]
 by_cases c5 : at8 s i < 240
 ·rw [decide_eq_true (show ((at8 s i : Int) < 240) by omega), cond_true, if_neg (c := 240 ≤ at8 s i ∧ _) (by omega)]
  have h0 : wrap .i64 ((at8 s i : Int) - 224) = ((at8 s i - 224 : Nat) : Int) := by rw [w64 _ (by omega)]; omega
  rw [h0, show (1 : Int) = ((1 : Nat) : Int) from rfl, Qrn _ _ _ _ _ _ (by omega) (by omega) (by omega)]
  by_cases g1 : goes s (i + 1)
  ·have hg1 := g1.2;rw [if_pos g1, Qrn _ _ _ _ _ _ (by omega) (by omega) (by omega)]
   by_cases g2 : goes s (i + 2)
   ·have hg2 := g2.2;rw [if_pos g2, show 1 + 1 + 1 = 3 from rfl, Qt6]
    by_cases c4 : 2048 ≤ 64 * (64 * (at8 s i - 224) + (at8 s (i + 1) - 128)) + (at8 s (i + 2) - 128) ∧ Q6b (64 * (64 * (at8 s i - 224) + (at8 s (i + 1) - 128)) + (at8 s (i + 2) - 128))
    ·rw [if_pos c4, if_pos ⟨by omega, c5, g1, g2, c4⟩, Qdt (by omega)]; rfl
    rw [if_neg c4, if_neg (fun h => c4 h.2.2.2.2), Q2t]
   rw [if_neg g2, if_neg (fun h => g2 h.2.2.2.1), Q2t]
  rw [if_neg g1, if_neg (fun h => g1 h.2.2.1), Q2t]
 rw [decide_eq_false (show ¬ ((at8 s i : Int) < 240) by omega), cond_false, decide_eq_true (show ((at8 s i : Int) ≥ 240) by omega), cond_true, if_neg (c := 224 ≤ at8 s i ∧ _) (by omega)]
 by_cases c6 : at8 s i < 248
 ·rw [decide_eq_true (show ((at8 s i : Int) < 248) by omega), cond_true]
  have h0 : wrap .i64 ((at8 s i : Int) - 240) = ((at8 s i - 240 : Nat) : Int) := by rw [w64 _ (by omega)]; omega
  rw [h0, show (1 : Int) = ((1 : Nat) : Int) from rfl, Qpv _ _ _ _ _ _ (by omega) (by omega) (by omega)]
  by_cases g1 : goes s (i + 1)
  ·have hg1 := g1.2;rw [if_pos g1, Qpv _ _ _ _ _ _ (by omega) (by omega) (by omega)]
   by_cases g2 : goes s (i + 2)
   ·have hg2 := g2.2;rw [if_pos g2, Qpv _ _ _ _ _ _ (by omega) (by omega) (by omega)]
    by_cases g3 : goes s (i + 3)
    ·have hg3 := g3.2;rw [if_pos g3, show 1 + 1 + 1 + 1 = 4 from rfl, Qs8]
     by_cases c4 : 65536 ≤ 64 * (64 * (64 * (at8 s i - 240) + (at8 s (i + 1) - 128)) + (at8 s (i + 2) - 128)) + (at8 s (i + 3) - 128) ∧ Q6b (64 * (64 * (64 * (at8 s i - 240) + (at8 s (i + 1) - 128)) + (at8 s (i + 2) - 128)) + (at8 s (i + 3) - 128))
     ·rw [if_pos c4, if_pos ⟨by omega, c6, g1, g2, g3, c4⟩, Qdt (by omega)]; rfl
     rw [if_neg c4, if_neg (fun h => c4 h.2.2.2.2.2), Q2t]
    rw [if_neg g3, if_neg (fun h => g3 h.2.2.2.2.1), Q2t]
   rw [if_neg g2, if_neg (fun h => g2 h.2.2.2.1), Q2t]
  rw [if_neg g1, if_neg (fun h => g1 h.2.2.1), Q2t]
 rw [decide_eq_false (show ¬ ((at8 s i : Int) < 248) by omega), cond_false, if_neg (fun h => c6 h.2.1), Q2t]
theorem Qlq (s : List UInt8) (i : Nat) (hi : i < s.length) (hs : s.length ≤ 4611686018427387904) : Tot (fun N => X0 N s (i : Int)) (ptR s i) :=
 ⟨5, fun N hN => by obtain ⟨M, rfl⟩ : ∃ M, N = M + 5 := ⟨N - 5, by omega⟩; exact Qmq s i hi hs M⟩
theorem Qo0 (s : List UInt8) (hs : s.length ≤ 4611686018427387904) : Tot (fun N => Vn N s) (Qrh (Qes s 0)) := by
 refine TotP.tot ?_;refine Q60 (L := fun N n (p : Int) => Y4 N s n p) (fun p => ∃ i : Nat, p = (i : Int) ∧ i ≤ s.length ∧ Qes s i = Qes s 0) (fun p => s.length - p.toNat) ?_ 0 ⟨0, rfl, Mn _, rfl⟩
 rintro p ⟨i, rfl, hi, hb0⟩
 show Stp _ _ _ (fun N n => cond (Q7 .lss (i : Int) (s.length : Int)) _ _);rw [Z2];refine Stp.cond (fun h => ?_) (fun h => ?_)
 ·have hl : i < s.length := by have := of_decide_eq_true h; omega
  have hw := Qh8 s i hl
  have hb : Qes s i = (if (Q2s s i).1 = 0 ∨ Qjh s i then some i else Qes s (i + (Q2s s i).2)) := by rw [Qes, dif_pos hl]
  refine Stp.bind (V := (· = ptR s i)) ⟨_, rfl, Qlq s i hl hs⟩ ?_
  rintro v rfl
  unfold ptR
  by_cases hn : Qjh s i
  ·rw [if_pos (.inr hn)] at hb;unfold Qjh at hn;rw [hn, Q2t];refine Stp.ret ?_;rw [← hb0, hb]; rfl
  have hp : ptF (Q2s s i) = (((Q2s s i).1 : Int), ((Q2s s i).2 : Int)) := Qdt (c := (Q2s s i).1) (w := (Q2s s i).2) (fun h => hn (by unfold Qjh; rw [← h.1, ← h.2]));rw [hp, Jn, Jn];refine Stp.cond (fun h2 => by have := of_decide_eq_true h2; have := hw.1; omega) (fun _ => ?_);refine Stp.cond (fun h0 => ?_) (fun h0 => ?_)
  ·have h0 : (Q2s s i).1 = 0 := by have := of_decide_eq_true h0; omega
   refine Stp.ret ?_;rw [← hb0, hb, if_pos (.inl h0)]; rfl
  have h0 : (Q2s s i).1 ≠ 0 := by have := of_decide_eq_false h0; omega
  have e : wrap .i64 ((i : Int) + ((Q2s s i).2 : Int)) = ((i + (Q2s s i).2 : Nat) : Int) := by rw [w64 _ (by have := hw.2.1; omega)]; omega
  show Stp _ _ _ (fun N n => Y4 N s n (wrap .i64 ((i : Int) + ((Q2s s i).2 : Int))));rw [e];refine Stp.go _ ⟨⟨_, rfl, hw.2.1, ?_⟩, by have := hw.1; have := hw.2.1; simp only [Md]; omega⟩;rw [← hb0, hb, if_neg]
  rintro (h | h)
  ·exact h0 h
  exact hn h
 have hl : ¬ i < s.length := by have := of_decide_eq_false h; omega
 refine Stp.ret ?_;rw [← hb0, Qes, dif_neg hl]; rfl
theorem Qp4 (o : Option Nat) : decide (Qrh o < 0) = o.isNone := by
 cases o with
 | none => rfl
 | some p => exact decide_eq_false (by simp only [Qrh]; omega)
theorem Qjd (s : List UInt8) : Tot (fun N => Ww N s) (Q72 s) := by
 refine TotP.tot ?_;show TotP (fun N => cond (Q7 .leq (s.length : Int) 65535) _ _) _;rw [Q02];refine TotP.cond (fun h => ?_) (fun h => ?_)
 ·have h : s.length ≤ 65535 := by have := of_decide_eq_true h; omega
  refine TotP.bindE (Qo0 s (by omega)) (.ret ?_);rw [Z2, Qp4]; simp [Q72, h]
 have h : ¬ s.length ≤ 65535 := by have := of_decide_eq_false h; omega
 exact .ret (by simp [Q72, h])
theorem Qla (s : List UInt8) (hs : s.length ≤ maxLen) (c : Nat) : Tot (fun N => Wg N s (c : Int)) (s.any fun b => b.toNat == c) := by
 have hm := Q5b;refine TotP.tot ?_;refine Q4h (L := fun N n i => Ym N s (c : Int) n i) s.length (fun i => ∀ j (h : j < s.length), j < i → (s[j]).toNat ≠ c) (fun i hi hj => ?_) (fun hj => ?_) (fun j _ hj => by omega)
 ·show Stp _ _ _ (fun N n => cond (Q7 .lss (i : Int) (s.length : Int)) _ _);refine Stp.cond (fun _ => ?_) (fun h => by rw [Z2] at h; have := of_decide_eq_false h; omega);refine Stp.idx (Z8 hi) ?_;rw [Jn];refine Stp.cond (fun h => ?_) (fun h => ?_)
  ·refine Stp.ret (Eq.symm ?_);rw [By];exact ⟨s[i], Mv _, by have := of_decide_eq_true h; simp; omega⟩
  rw [w64 _ (by omega)];refine Stp.go _ ⟨by omega, fun j hj2 hji => ?_⟩
  by_cases e : j = i
  ·subst e; have := of_decide_eq_false h; omega
  exact hj j hj2 (by omega)
 show Stp _ _ _ (fun N n => cond (Q7 .lss (s.length : Int) (s.length : Int)) _ _);refine Stp.cond (fun h => by rw [Z2] at h; have := of_decide_eq_true h; omega) (fun _ => ?_);refine Stp.ret (Eq.symm ?_);rw [Cs];intro b hb;obtain ⟨j, hj2, rfl⟩ := Bo hb;have := hj j hj2 hj2;simpa using this
theorem Qqg (s : List UInt8) : Qmr s = ((s.any fun b => b.toNat == 43) || (s.any fun b => b.toNat == 35)) := by
 unfold Qmr
 induction s with
 | nil => rfl
 | cons b s ih => simp only [List.any_cons, ih]; cases b.toNat == 43 <;> cases b.toNat == 35 <;> cases (s.any fun b => b.toNat == 43) <;> cases (s.any fun b => b.toNat == 35) <;> rfl
theorem Q8v (s : List UInt8) (hs : s.length ≤ maxLen) : Tot (fun N => X9 N s) (Je s) := by
 refine TotP.tot ?_;show TotP (fun N => cond (Jx .neq s []) _ _) _
 have e : Jx .neq s [] = decide (s ≠ []) := by cases s <;> rfl
 rw [e];unfold Je;rw [Qqg];refine TotP.cond (fun h => ?_) (fun h => .ret (by rw [h]; rfl));rw [h];refine TotP.bindE (Qjd s) ?_;refine TotP.cond (fun h => ?_) (fun h => .ret (by rw [h]; rfl));rw [h];refine TotP.bindE (Qla s hs 43) ?_;refine TotP.cond (fun h => ?_) (fun h => .ret ?_)
 ·refine TotP.bindE (Qla s hs 35) (.ret ?_)
  have h : (s.any fun b => b.toNat == 43) = false := by simpa using h
  rw [h]; rfl
 have h : (s.any fun b => b.toNat == 43) = true := by simpa using h
 rw [h]; rfl
end
end Go.Av
namespace Go.Av
noncomputable section
theorem Qbk {m : Nat} (hm : m ≤ 900) {o : Q2} (ho : few m o) (c n : List UInt8) (hn : n.length ≤ maxLen) : TotP (fun N => Z1 N o c n) (fun r => few (m + 1) r.2) := by
 have weak : few (m + 1) o := ⟨Nc ho.1, fun e he => Nc (ho.2 e he)⟩;unfold Z1;refine TotP.bindE (Q8v n hn) ?_;refine TotP.cond (fun _ => .ret weak) (fun _ => ?_);refine TotP.bind (Qaj (by omega) ho c) (fun v hv => ?_);exact Qnj (by omega) c n hv.1 (by rw [hv.2]; exact ho)
theorem Qlz {m : Nat} (hm : m ≤ 900) (c n : List UInt8) (id : Int) {v : List Z4 × Q2} (hv : v.1.length ≤ m) (ho : few m v.2) :
  TotP (fun N => Qg N c n id v N 0) (fun r => few (m + 1) r.2) := by
 have weak : few (m + 1) v.2 := ⟨Nc ho.1, fun e he => Nc (ho.2 e he)⟩;refine Q4h (L := fun N k s => Qg N c n id v k s) v.1.length (fun _ => True) (fun i hi _ => ?_) (fun _ => ?_) trivial
 ·show Stp _ _ _ (fun N k => cond (Q7 .lss (i : Int) ((Qd Z4.cells v.1).length : Int)) _ _);rw [Gh, Z2];refine Stp.cond (fun _ => ?_) (fun h => absurd (of_decide_eq_false h) (by omega));refine Stp.idx (Z8 hi) ?_;refine Stp.cond (fun _ => Stp.ret weak) (fun _ => ?_);refine Stp.idx (Z8 hi) ?_;refine Stp.cond (fun _ => Stp.ret weak) (fun _ => ?_);rw [w64 _ (by omega)];exact Stp.go (L := fun N k s => Qg N c n id v k s) _ ⟨by omega, trivial⟩
 show Stp _ _ _ (fun N k => cond (Q7 .lss ((v.1.length : Nat) : Int) ((Qd Z4.cells v.1).length : Int)) _ _);rw [Gh, Z2];refine Stp.cond (fun h => absurd (of_decide_eq_true h) (by omega)) (fun _ => Stp.fin ?_);refine TotP.bind (Qe3 (by omega) hv _) (fun w hw => ?_);refine TotP.bind (Qcx (by omega) ho c hw) (fun u hu => ?_);exact TotP.ret hu
theorem Qa6 {m : Nat} (hm : m ≤ 900) {o : Q2} (ho : few m o) (c n : List UInt8) (id : Int) (hn : n.length ≤ maxLen) : TotP (fun N => Qw N o c n id) (fun r => few (m + 1) r.2) := by
 have weak : few (m + 1) o := ⟨Nc ho.1, fun e he => Nc (ho.2 e he)⟩;unfold Qw;refine TotP.bindE (Q8v n hn) ?_;refine TotP.cond (fun _ => .ret weak) (fun _ => ?_);refine TotP.cond (fun _ => .ret weak) (fun _ => ?_);refine TotP.cond (fun _ => .ret weak) (fun _ => ?_);refine TotP.bind (Qaj (by omega) ho c) (fun v hv => ?_)
 have ho2 : few m v.2 := by rw [hv.2]; exact ho
 have weak2 : few (m + 1) v.2 := ⟨Nc ho2.1, fun e he => Nc (ho2.2 e he)⟩;refine Q4h (L := fun N k s => Ql N c n id v k s) v.1.length (fun _ => True) (fun i hi _ => ?_) (fun _ => ?_) trivial
 ·have := hv.1;show Stp _ _ _ (fun N k => cond (Q7 .lss (i : Int) ((Qd Z4.cells v.1).length : Int)) _ _);rw [Gh, Z2];refine Stp.cond (fun _ => ?_) (fun h => absurd (of_decide_eq_false h) (by omega));refine Stp.idx (Z8 hi) ?_;refine Stp.cond (fun _ => Stp.ret weak2) (fun _ => ?_);rw [w64 _ (by omega)];exact Stp.go (L := fun N k s => Ql N c n id v k s) _ ⟨by omega, trivial⟩
 show Stp _ _ _ (fun N k => cond (Q7 .lss ((v.1.length : Nat) : Int) ((Qd Z4.cells v.1).length : Int)) _ _);rw [Gh, Z2];refine Stp.cond (fun h => absurd (of_decide_eq_true h) (by omega)) (fun _ => Stp.fin ?_);exact Qlz hm c n id hv.1 ho2
theorem Qpi {R : Reg} (hw : WR R) (c n : List UInt8) (hn : n.length ≤ maxLen) : TotP (fun N => Vt N R c n) (· = Qiv (Je n) R c n) := by
 unfold Vt;refine TotP.bindE (Q83 n hn) ?_;rw [if_pos hw]; exact .ret rfl
theorem Qr9 (R : Reg) (c n : List UInt8) (id : Int) (hn : n.length ≤ maxLen) : TotP (fun N => Ve N R c n id) (· = Qkt (Je n) R c n id) := by
 unfold Ve;exact TotP.bindE (Q83 n hn) (.ret rfl)
def Gv (t : List Q0) : List (List UInt8 × List UInt8 × Int) := t.map fun y => (y.Client, y.Name, y.ID)
def Qo7 (t : List Q0) (N : Nat) (i : Int) (c : List Q1) (R : Reg) (go : Int → List Q1 → Reg → Option Bool) : Option Bool :=
 (idx t i).bind fun y103 =>
 cond (Q7 .eql y103.ID 0)
 ((idx t i).bind fun y110 =>
 (idx t i).bind fun y112 =>
 (Vt N R y110.Client y112.Name).bind fun v114 =>
 (idx t i).bind fun y116 =>
 (idx t i).bind fun y118 =>
 (Z1 N (⟨c⟩ : Q2) y116.Client y118.Name).bind fun v120 =>
 go (wrap .i64 (i + 1)) v120.2.L v114.2)
 ((idx t i).bind fun y128 =>
 (idx t i).bind fun y130 =>
 (idx t i).bind fun y132 =>
 (Ve N R y128.Client y130.Name y132.ID).bind fun v134 =>
 (idx t i).bind fun y136 =>
 (idx t i).bind fun y138 =>
 (idx t i).bind fun y140 =>
 (Qw N (⟨c⟩ : Q2) y136.Client y138.Name y140.ID).bind fun v142 =>
 go (wrap .i64 (i + 1)) v142.2.L v134.2)
theorem Qah {t : List Q0} (ht : t.length ≤ 20) (hn : ∀ y ∈ t, y.Name.length ≤ maxLen) {L : Nat → Nat → Int → List Q1 → Reg → Option Bool} {K : Nat → Reg → Option Bool} {Q : Bool → Prop}
  (hL : ∀ N n i c R, L N (n + 1) i c R = cond (Q7 .lss i (t.length : Int)) (Qo7 t N i c R (L N n)) (K N R)) (hK : TotP (fun N => K N (Q2z Je (Gv t))) Q) : TotP (fun N => L N N 0 [] []) Q := by
 refine Q60 (S := Int × List Q1 × Reg) (L := fun N n s => L N n s.1 s.2.1 s.2.2) (fun s => ∃ i : Nat, s.1 = (i : Int) ∧ i ≤ t.length ∧ few i ⟨s.2.1⟩ ∧ s.2.2 = Q2z Je (Gv (t.take i))) (fun s => t.length - s.1.toNat) ?_ (0, [], []) ⟨0, rfl, Mn _, ⟨Ln _, fun e h => by cases h⟩, rfl⟩
 rintro ⟨j, c, R⟩ ⟨i, hj, hi, hf, hR⟩
 simp only at hj hf hR
 subst hj
 have e0 : (fun N n => L N (n + 1) (i : Int) c R) = fun N n => cond (Q7 .lss (i : Int) (t.length : Int)) (Qo7 t N i c R (L N n)) (K N R) := by funext N n; exact hL _ _ _ _ _
 show Stp _ _ _ (fun N n => L N (n + 1) (i : Int) c R);rw [e0, Z2];dsimp only;refine Stp.cond (fun h => ?_) (fun h => ?_)
 ·have hlt : i < t.length := by have := of_decide_eq_true h; omega
  have hw : WR R := by rw [hR]; exact Qpf _ _
  have hln := hn _ (Mv hlt)
  have ew : wrap .i64 ((i : Int) + 1) = ((i + 1 : Nat) : Int) := by rw [w64 _ (by omega)]; omega
  have fold : ∀ q, Gv (t.take (i + 1)) = Gv (t.take i) ++ [q] → Q2z Je (Gv (t.take (i + 1))) = Q4r Je R q := fun q hq => by
   rw [hq, Q2z, List.foldl_append, hR]; rfl
  have etr : Gv (t.take (i + 1)) = Gv (t.take i) ++ [(t[i].Client, t[i].Name, t[i].ID)] := by
   unfold Gv;rw [Ct, Dc, Lc hlt]; rfl
  have hfold := fold _ etr;refine Stp.idx (Z8 hlt) ?_;rw [Jn];refine Stp.cond (fun h0 => ?_) (fun h0 => ?_)
  ·have h0 := of_decide_eq_true h0;refine Stp.idx (Z8 hlt) ?_;refine Stp.idx (Z8 hlt) ?_;refine Stp.bind (Qpi hw _ _ hln) (fun v hv => ?_);subst hv;refine Stp.idx (Z8 hlt) ?_;refine Stp.idx (Z8 hlt) ?_;refine Stp.bind (Qbk (by omega) hf _ _ hln) (fun u hu => ?_);rw [ew];refine Stp.go (L := fun N n (s : Int × List Q1 × Reg) => L N n s.1 s.2.1 s.2.2) (((i + 1 : Nat) : Int), u.2.L, (Qiv (Je t[i].Name) R t[i].Client t[i].Name).2) ⟨⟨i + 1, rfl, hlt, hu, ?_⟩, by simp only [Md]; omega⟩;rw [hfold]; simp only [Q4r]; rw [if_pos h0]
  have h0 := of_decide_eq_false h0;refine Stp.idx (Z8 hlt) ?_;refine Stp.idx (Z8 hlt) ?_;refine Stp.idx (Z8 hlt) ?_;refine Stp.bind (Qr9 _ _ _ _ hln) (fun v hv => ?_);subst hv;refine Stp.idx (Z8 hlt) ?_;refine Stp.idx (Z8 hlt) ?_;refine Stp.idx (Z8 hlt) ?_;refine Stp.bind (Qa6 (by omega) hf _ _ _ hln) (fun u hu => ?_);rw [ew];refine Stp.go (L := fun N n (s : Int × List Q1 × Reg) => L N n s.1 s.2.1 s.2.2) (((i + 1 : Nat) : Int), u.2.L, (Qkt (Je t[i].Name) R t[i].Client t[i].Name t[i].ID).2) ⟨⟨i + 1, rfl, hlt, hu, ?_⟩, by simp only [Md]; omega⟩;rw [hfold]; simp only [Q4r]; rw [if_neg h0]
 have : i = t.length := by have := of_decide_eq_false h; omega
 subst this;refine Stp.fin ?_;rw [hR, Bz]; exact hK
theorem Qs9 (id : Int) : ∃ v : List UInt8 × Bool, Tot (fun N => Yu N id) v ∧ Tot (fun N => Y2 N id) v := by
 by_cases h1 : id < 0
 ·exact ⟨([], false), (show TotP _ (· = _) by unfold Yu; rw [Z2]; exact TotP.cond (fun _ => .ret rfl) (fun h => absurd h1 (of_decide_eq_false h))).tot, (show TotP _ (· = _) by unfold Y2; rw [Z2]; exact TotP.cond (fun _ => .ret rfl) (fun h => absurd h1 (of_decide_eq_false h))).tot⟩
 by_cases h2 : id > 65535
 ·exact ⟨([], false), (show TotP _ (· = _) by unfold Yu; rw [Q0x]; exact TotP.cond (fun _ => .ret rfl) (fun _ => TotP.cond (fun _ => .ret rfl) (fun h => absurd h2 (of_decide_eq_false h)))).tot,
   (show TotP _ (· = _) by unfold Y2; rw [Q0x]; exact TotP.cond (fun _ => .ret rfl) (fun _ => TotP.cond (fun _ => .ret rfl) (fun h => absurd h2 (of_decide_eq_false h)))).tot⟩
 obtain ⟨n, rfl⟩ : ∃ n : Nat, id = (n : Int) := ⟨id.toNat, by omega⟩;have e1 : wrap .u64 (n : Int) = (n : Int) := Q5a _ (by omega);have hlen : (Q7u n 2).length = 2 := Qh0 2 n;have hm := Q83 (Q7u n 2) (by rw [hlen]; unfold maxLen; decide);have hr := Q8v (Q7u n 2) (by rw [hlen]; unfold maxLen; decide);have t1 : Tot (fun N => Ze N (n : Int) 2) (Q7u n 2) := ⟨11, fun N hN => Qp7 N n 2 (by omega) (by decide) (by omega)⟩;have t2 : Tot (fun N => Xj N (n : Int) 2) (Q7u n 2) := ⟨11, fun N hN => Qtd N n 2 (by omega) (by decide) (by omega)⟩;have t3 : Tot (fun N => Yl N (Q7u n 2)) ((Qlc (Q7u n 2) : Nat) : Int) := ⟨11, fun N hN => Qtb N _ (by omega) (by omega)⟩;refine ⟨if Je (Q7u n 2) = true then (Q7u n 2, true) else ([], false), (show TotP _ (· = _) from ?_).tot, (show TotP _ (· = _) from ?_).tot⟩
 ·unfold Yu;rw [Z2, Q0x];refine TotP.cond (fun h => absurd (of_decide_eq_true h) h1) (fun _ => TotP.cond (fun h => absurd (of_decide_eq_true h) h2) (fun _ => ?_));rw [e1];refine TotP.bindE t1 (TotP.bindE hm ?_);refine TotP.cond (fun h => .ret ?_) (fun h => .ret ?_)
  ·rw [if_neg (by simpa using h)]
  rw [if_pos (by simpa using h)]
 unfold Y2 Wq;rw [Z2, Q0x];refine TotP.cond (fun h => absurd (of_decide_eq_true h) h1) (fun _ => TotP.cond (fun h => absurd (of_decide_eq_true h) h2) (fun _ => ?_));rw [e1];refine TotP.bindE t2 ?_;refine TotP.bind (V := fun v => v.2 = Je (Q7u n 2)) ?_ (fun v hv => ?_)
 ·rw [Q03];refine TotP.cond (fun h => absurd (of_decide_eq_true h) (by omega)) (fun _ => ?_);refine TotP.bindE hr ?_;refine TotP.cond (fun h => .ret ?_) (fun h => ?_)
  ·simpa using h
  exact TotP.bindE t3 (.ret (by simpa using h.symm))
 rw [hv];refine TotP.cond (fun h => .ret ?_) (fun h => .ret ?_)
 ·rw [if_neg (by simpa using h)]
 rw [if_pos (by simpa using h)]
def Qsp : Xr := ⟨0, false, false, 0, 0, [], [], false, 0, [], false, [], false, [], false, (⟨[], [], 0, false, []⟩ : Q5z), false, 0, [], [], []⟩
def Qw3 : Um := ⟨0, (⟨false, 0, false, false, false, 0⟩ : Yp), 0, 0, 0, false, 0, 0, 0, [], []⟩
def Qtp : Wa := ⟨0, 0, [], [], 0, false, false, 0, [], 0, [], 0, Qsp, Qw3, ⟨0, 0, [], []⟩⟩
def Qxt (d : Z9) : Wa := ⟨3, 2, [], [], 0, false, false, 0, [], 0, d.Hops, 0, Qsp, d.Msg, ⟨0, 0, [], []⟩⟩
def Qlm (d : Z9) (s : List UInt8) : Wa := ⟨3, 1, s, d.Msg.Data, d.Msg.Flags.QoS, d.Msg.Flags.Retain, d.Msg.Flags.Dup, d.Msg.MsgID, [], d.Msg.Flags.Type', d.Hops, 0, Qsp, Qw3, ⟨0, 0, [], []⟩⟩
def toG (d : Z9) (c : Int) (nm x : List UInt8 × Bool) (e : Int) : Wa × Int :=
 if c ≠ 0 then (Qtp, c) else if d.Msg.Type' ≠ 12 then (Qxt d, 0) else
 if d.Msg.Flags.Type' = 2 then (if nm.2 = false then (Qtp, 11) else (Qlm d nm.1, 0)) else
 if e ≠ 0 then (Qtp, 11) else if x.2 = (decide (d.Msg.Flags.Type' = 1)) then (Qlm d x.1, 0) else (Qtp, 11)
theorem Qqo (l : List Uh) (h : l.length ≤ 30) (N : Nat) : Q2d N l = some l := by
 unfold Q2d
 cases l with
 | nil => rfl
 | cons a l =>
  have e : Nat.beq (a :: l).length 0 = false := rfl
  have e2 : Nat.ble ((0 + (a :: l).length + 4096) * 24) 17592186044416 = true := by rw [Lu]; omega
  rw [e, e2]; rfl
theorem Qxa {d : Z9} (h : Qsh d) : ∃ c nm, Tot (fun N => Vv N d ⟨1048576, 32⟩) c ∧ Tot (fun N => Y2 N d.Msg.TopicID) nm ∧
  ∀ (R : Reg) (cl : List UInt8), Tot (fun N => J3 N R cl d) (toG d c nm ((Q5k R cl d.Msg.TopicID).1, Q2v R cl d.Msg.TopicID) (Q5k R cl d.Msg.TopicID).2, R) := by
 obtain ⟨c, _, hc⟩ := Qks h ⟨1048576, 32⟩;obtain ⟨nm, n1, n2⟩ := Qs9 d.Msg.TopicID;refine ⟨c, nm, hc, n2, fun R cl => (show TotP _ (· = _) from ?_).tot⟩;unfold J3;refine TotP.bindE (v := ⟨1048576, 32⟩) (.of fun _ => rfl) ?_;refine TotP.bindE hc ?_;simp only [Q03, Jn];unfold toG;refine TotP.cond (fun g => ?_) (fun g => ?_)
 ·rw [if_pos (of_decide_eq_true g)]; exact .ret rfl
 rw [if_neg (of_decide_eq_false g)];refine TotP.bindE (v := d.Hops) (.of fun N => Qqo _ h.hops N) ?_;refine TotP.cond (fun g => ?_) (fun g => ?_)
 ·rw [if_pos (of_decide_eq_true g)]; exact .ret rfl
 rw [if_neg (of_decide_eq_false g)];refine TotP.cond (fun g => ?_) (fun g => ?_)
 ·rw [if_pos (of_decide_eq_true g)];refine TotP.bindE (f := fun N => Vj N ⟨⟩ d.Msg.TopicID) (v := nm) (Tot.bind n1 (.ret _)) ?_;refine TotP.cond (fun g => ?_) (fun g => ?_)
  ·rw [if_pos (by simpa using g)]; exact .ret rfl
  rw [if_neg (by simpa using g)]; exact .ret rfl
 rw [if_neg (of_decide_eq_false g)];refine TotP.cond (fun g => ?_) (fun g => ?_)
 ·rw [g];refine TotP.bindE (v := (Q5k R cl d.Msg.TopicID, R)) (.of fun _ => rfl) ?_;refine TotP.cond (fun g => ?_) (fun g => ?_)
  ·rw [if_pos (of_decide_eq_true g)]; exact .ret rfl
  rw [if_neg (of_decide_eq_false g)];refine TotP.bindE (v := (Q2v R cl d.Msg.TopicID, R)) (.of fun _ => rfl) ?_;refine TotP.cond (fun g => ?_) (fun g => ?_)
  ·rw [if_neg (by simpa using g)]; exact .ret rfl
  rw [if_pos (by simpa using g)]; exact .ret rfl
 rw [g];refine TotP.bindE (v := (Q5k R cl d.Msg.TopicID, R)) (.of fun _ => rfl) ?_;refine TotP.cond (fun g => ?_) (fun g => ?_)
 ·rw [if_pos (of_decide_eq_true g)]; exact .ret rfl
 rw [if_neg (of_decide_eq_false g)];refine TotP.bindE (v := (Q2v R cl d.Msg.TopicID, R)) (.of fun _ => rfl) ?_;refine TotP.cond (fun g => ?_) (fun g => ?_)
 ·rw [if_neg (by simpa using g)]; exact .ret rfl
 rw [if_pos (by simpa using g)]; exact .ret rfl
end
end Go.Av
namespace Go.Av
noncomputable section
theorem Qqn (t : List Q0) (ht : t.length ≤ maxLen) : TotP (fun N => Ws N t) (fun v => v = true → t.length ≤ 20 ∧ ∀ y ∈ t, y.Name.length ≤ 200) := by
 have hm := Q5b;refine Q4h (L := fun N n s => Zt N t n s) t.length (fun i => ∀ j (h : j < t.length), j < i → (t[j]).Name.length ≤ 200) (fun i hi hj => ?_) (fun hj => ?_) (fun j _ hj => by omega)
 ·show Stp _ _ _ (fun N n => cond (Q7 .lss (i : Int) ((Qd Q0.cells t).length : Int)) _ _);rw [Qh, Z2];refine Stp.cond (fun _ => ?_) (fun h => by have := of_decide_eq_false h; omega);refine Stp.idx (Z8 hi) ?_;refine Stp.cond (fun _ => Stp.ret (fun h => nomatch h)) (fun _ => ?_);refine Stp.idx (Z8 hi) ?_;rw [Q0x];refine Stp.cond (fun _ => Stp.ret (fun h => nomatch h)) (fun h1 => ?_);have h1 := of_decide_eq_false h1;rw [w64 _ (by omega)];refine Stp.go (L := fun N n s => Zt N t n s) _ ⟨by omega, fun j hj' hji => ?_⟩
  by_cases e : j = i
  ·subst e; omega
  exact hj j hj' (by omega)
 show Stp _ _ _ (fun N n => cond (Q7 .lss (t.length : Int) ((Qd Q0.cells t).length : Int)) _ _);rw [Qh, Z2];refine Stp.cond (fun h => by have := of_decide_eq_true h; omega) (fun _ => Stp.ret (fun h => ?_));rw [Q02] at h;have h := of_decide_eq_true h;refine ⟨by omega, fun y hy => ?_⟩;obtain ⟨j, hj', rfl⟩ := Bo hy;exact hj j hj' hj'
theorem Qot {d : Z9} (h : d.Hops.length ≤ maxLen) (c : Int) (nm x : List UInt8 × Bool) (e : Int) : Qui (toG d c nm x e).1 := by
 have z : Qto Qsp := by constructor <;> exact Mn _
 have key : ∀ (a : Wa), a.Props = [] → a.Hops.length ≤ maxLen → a.Packet = Qsp → a.Frame = ⟨0, 0, [], []⟩ → Qui a := fun a h1 h2 h3 h4 => ⟨by rw [h1]; exact Mn _, h2, by rw [h3]; exact z, by rw [h4]; decide⟩;unfold toG
 repeat' split
 all_goals first | exact key _ rfl (Mn _) rfl rfl | exact key _ rfl h rfl rfl
theorem Qij (t : List Q0) (c : List UInt8) : Gv (t.filter fun y => decide (y.Client = c)) = (Gv t).filter fun q => q.1 == c := by
 unfold Gv
 induction t with
 | nil => rfl
 | cons y t ih =>
  by_cases h : y.Client = c
  ·rw [Bc (by simpa using h), Nf, Nf, Bc (by simpa using h), ih]
  rw [Bd (by simpa using h), Nf, Bd (by simpa using h), ih]
section
variable (t : List Q0) (client other : List UInt8) (d : Z9) (ht : t.length ≤ 20) (hn : ∀ y ∈ t, y.Name.length ≤ 200) (hd : Qsh d)
include ht hn hd
theorem Qsu : TotP (fun N => Qz N client other d (Q2z Je (Gv t)) (t.filter fun y => decide (y.Client = client)) N 0 [] []) (· = true) := by
 have hm : 200 ≤ maxLen := by unfold maxLen; decide
 obtain ⟨c, nm, _, hnm, hto⟩ := Qxa hd
 have he : Q2z Je (Gv (t.filter fun y => decide (y.Client = client))) = ((Gv t).filter fun q => q.1 == client).foldl (Q4r Je) [] := by rw [Qij]; rfl
 have hr : Q5k (Q2z Je (Gv t)) client d.Msg.TopicID = Q5k (Q2z Je (Gv (t.filter fun y => decide (y.Client = client)))) client d.Msg.TopicID ∧ Q2v (Q2z Je (Gv t)) client d.Msg.TopicID = Q2v (Q2z Je (Gv (t.filter fun y => decide (y.Client = client)))) client d.Msg.TopicID := by
  rw [he]; exact Qm5 (Qby Je client (Gv t) [] [] rfl) _
 have hl : (t.filter fun y => decide (y.Client = client)).length ≤ 20 := Ms (List.length_filter_le _ _) ht;refine Qah (L := fun N n i c' R => Qz N client other d (Q2z Je (Gv t)) (t.filter fun y => decide (y.Client = client)) n i c' R) hl (fun y hy => Ms (hn y (List.mem_filter.1 hy).1) hm) (fun N n i c' R => rfl) ?_;have hh : d.Hops.length ≤ maxLen := Ms hd.hops (by unfold maxLen; decide);refine TotP.bindE (hto _ client) ?_;refine TotP.bindE (hto _ client) ?_;dsimp only;rw [← hr.1, ← hr.2];refine TotP.bind (Q5g _ _ (Qot hh _ _ _ _)) (fun v hv => ?_);have hv : v = true := hv.2 rfl;subst hv;refine TotP.cond (fun h => by cases h) (fun _ => ?_);refine TotP.cond (fun h => by rw [Q03] at h; exact absurd rfl (of_decide_eq_true h)) (fun _ => ?_);refine TotP.cond (fun _ => .ret rfl) (fun h1 => ?_);refine TotP.cond (fun _ => .ret rfl) (fun h2 => ?_);rw [Q03] at h1 h2
 have h1 : d.Msg.Type' = 12 := by have := of_decide_eq_false h1; simpa using this
 have h2 : d.Msg.Flags.Type' = 2 := by have := of_decide_eq_false h2; simpa using this
 have key : ∀ x e x' e', toG d c nm x e = toG d c nm x' e' := fun x e x' e' => by
  unfold toG;rw [h1, h2]; rfl
 refine TotP.bindE (hto _ other) ?_;dsimp only;refine TotP.bindE hnm ?_;refine TotP.bind (Q5g _ _ (Qot hh _ _ _ _)) (fun v hv => ?_);have hv : v = true := hv.2 (by rw [key]);subst hv;refine TotP.cond (fun _ => ?_) (fun h => by cases h);rw [key _ _ (([], false)) 0];rw [key (((Q5k (Q2z Je (Gv t)) other d.Msg.TopicID).1, Q2v (Q2z Je (Gv t)) other d.Msg.TopicID)) _ (([], false)) 0];refine TotP.cond (fun _ => ?_) (fun h => by rw [Jn] at h; exact absurd rfl (of_decide_eq_false h));refine TotP.cond (fun _ => .ret rfl) (fun h3 => ?_);rw [Q03] at h3
 have h3 : (toG d c nm ([], false) 0).2 = 0 := by have := of_decide_eq_false h3; simpa using this
 unfold toG at h3 ⊢;rw [h1, h2] at h3 ⊢
 by_cases hc : c ≠ 0
 ·rw [if_pos hc] at h3; exact absurd h3 hc
 rw [if_neg hc, if_neg (by decide), if_pos rfl] at h3 ⊢
 by_cases hn2 : nm.2 = false
 ·rw [if_pos hn2] at h3; cases h3
 rw [if_neg hn2];refine TotP.cond (fun _ => .ret ?_) (fun h => absurd h hn2);rw [Q5p]; simp [Qlm]
theorem Qst : TotP (fun N => Qf N t client other d (Q2z Je (Gv t)) N 0 []) (· = true) := by
 refine Q60 (S := Int × List Q0) (L := fun N n s => Qf N t client other d (Q2z Je (Gv t)) n s.1 s.2) (fun s => ∃ i : Nat, s.1 = (i : Int) ∧ i ≤ t.length ∧ s.2 = (t.take i).filter fun y => decide (y.Client = client)) (fun s => t.length - s.1.toNat) ?_ (0, []) ⟨0, rfl, Mn _, rfl⟩
 rintro ⟨j, l⟩ ⟨i, hj, hi, hl⟩
 simp only at hj hl
 subst hj;show Stp _ _ _ (fun N n => cond (Q7 .lss (i : Int) ((Qd Q0.cells t).length : Int)) _ _);rw [Qh, Z2];dsimp only;refine Stp.cond (fun h => ?_) (fun h => ?_)
 ·have hlt : i < t.length := by have := of_decide_eq_true h; omega
  have ew : wrap .i64 ((i : Int) + 1) = ((i + 1 : Nat) : Int) := by rw [w64 _ (by omega)]; omega
  have hlen : l.length ≤ 20 := by rw [hl]; refine Ms (List.length_filter_le _ _) ?_; rw [Mh]; omega
  rw [ew];refine Stp.idx (Z8 hlt) ?_;rw [Q5p];refine Stp.cond (fun h => ?_) (fun h => ?_)
  ·refine Stp.idx (Z8 hlt) ?_;refine Stp.chk (by rw [Lu]; omega) ?_;refine Stp.go (L := fun N n (s : Int × List Q0) => Qf N t client other d (Q2z Je (Gv t)) n s.1 s.2) (((i + 1 : Nat) : Int), l ++ [t[i]]) ⟨⟨i + 1, rfl, hlt, ?_⟩, by simp only [Md]; omega⟩;rw [Ct, Lc hlt, List.filter_append, hl]
   have e : ([t[i]].filter fun y => decide (y.Client = client)) = [t[i]] := by rw [Bc (p := fun y : Q0 => decide (y.Client = client)) h]; rfl
   exact congrArg _ e.symm
  refine Stp.go (L := fun N n (s : Int × List Q0) => Qf N t client other d (Q2z Je (Gv t)) n s.1 s.2) (((i + 1 : Nat) : Int), l) ⟨⟨i + 1, rfl, hlt, ?_⟩, by simp only [Md]; omega⟩;rw [Ct, Lc hlt, List.filter_append, hl]
  have e : ([t[i]].filter fun y => decide (y.Client = client)) = [] := by rw [Bd (p := fun y : Q0 => decide (y.Client = client)) (by rw [h]; decide)]; rfl
  show _ = _ ++ ([t[i]].filter fun y => decide (y.Client = client));rw [e, Ng]
 have : i = t.length := by have := of_decide_eq_false h; omega
 subst this;rw [hl, Bz];exact Stp.fin (Qsu t client other d ht hn hd)
theorem Qsa : TotP (fun N => Qy N t client other d N 0 [] []) (· = true) := by
 have hm : 200 ≤ maxLen := by unfold maxLen; decide
 refine Qah (L := fun N n i c' R => Qy N t client other d n i c' R) (K := fun N R => Qf N t client other d R N 0 []) ht (fun y hy => Ms (hn y hy) hm) (fun N n i c' R => ?_) (Qst t client other d ht hn hd);show cond (Q7 .lss i ((Qd Q0.cells t).length : Int)) _ _ = _;rw [Qh]; rfl
end
theorem Qqs (t : List Q0) (client other : List UInt8) (d : Z9) (ht : t.length ≤ maxLen) : ∃ N, Yd N t client other d = some true := by
 have key : TotP (fun N => Yd N t client other d) (· = true) := by
  unfold Yd;refine TotP.bindE (v := true) (.of fun _ => rfl) ?_;refine TotP.cond (fun h => by cases h) (fun _ => ?_);refine TotP.bind (Qqn t ht) (fun v hv => ?_);refine TotP.cond (fun _ => .ret rfl) (fun g => ?_);obtain ⟨h1, h2⟩ := hv (by simpa using g);refine TotP.cond (fun _ => .ret rfl) (fun _ => TotP.cond (fun _ => .ret rfl) (fun _ => ?_));refine TotP.bind (Qqj d) (fun v hv => ?_);refine TotP.cond (fun _ => .ret rfl) (fun g => ?_);exact Qsa t client other d h1 h2 (hv (by simpa using g))
 obtain ⟨N, hN⟩ := key.tot;exact ⟨N, hN N (Ln _)⟩
end
end Go.Av
