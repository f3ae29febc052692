/- Part of the proof of CrossNames: for every input the law returns true; no condition. -/
import Derived.Test.YtnbfaogioomghaaGreatDoorAvGc
import Derived.Test.YtnbfaogioomghaaGreatDoorAvDrawt
import Derived.Test.YtnbfaogioomghaaGreatDoorAvSelf
import Derived.Test.YtnbfaogioomghaaGreatDoorAvTrans2
namespace Go.Av
noncomputable section
section
variable {P : Program} {Gl : Nat → Option (List PV)} {α β R : Type}
theorem iU {b : Bool} {x y : Option R} {r : R} {X Y : Prop} (h : cond b x y = some r) (h1 : x = some r → X) (h2 : y = some r → Y) : @Bool.rec (fun _ => Prop) Y X b := ifO h (fun _ => h1) (fun _ => h2)
theorem kU {b : Bool} {x : Option R} {r : R} {X : Prop} (h : cond b x none = some r) (h1 : x = some r → X) : @Bool.rec (fun _ => Prop) (EP P Gl).fail X b := by
 obtain ⟨h2, h3⟩ := Qiu h;exact Qfj h2 (h1 h3)
section
variable {K : Nat → Prop} {H : List AObj} {a b c d e f : PV}
theorem p1 : FrzL K H [.p a] [a] := .cons (.p _) .nil
theorem p2 : FrzL K H [.p a, .p b] [a, b] := .cons (.p _) p1
theorem p3 : FrzL K H [.p a, .p b, .p c] [a, b, c] := .cons (.p _) p2
theorem p4 : FrzL K H [.p a, .p b, .p c, .p d] [a, b, c, d] := .cons (.p _) p3
theorem p5 : FrzL K H [.p a, .p b, .p c, .p d, .p e] [a, b, c, d, e] := .cons (.p _) p4
theorem q4 : Frz K H (.agg [.p a, .p b, .p c, .p d]) (.agg [a, b, c, d]) := Frz.agg' p4
theorem q2 : Frz K H (.agg [.p a, .p b]) (.agg [a, b]) := Frz.agg' p2
theorem u2 : Frz K H (.tuple [.p a, .p b]) (.tuple [a, b]) := Frz.tuple' p2
theorem q4n {n : Nat} : Frz K H (.agg [.p a, .p b, .p c, .p .nilSlice]) (.agg [a, b, c, .slice n []]) := Frz.agg' (.cons (.p _) (.cons (.p _) (.cons (.p _) (.cons (.nil _) .nil))))
end
section
variable {x : Option α} {F : α → Option β} {r : β} {f : Nat} {pargs : List PV} {g : α → PV} {H : List AObj} {args : List AV}
theorem cP (h : x.bind F = some r) (hp : ∀ {v}, x = some v → Pure P Gl f pargs (g v)) (hf : FrzL (fun _ => False) H args pargs) {Q : AV → List AObj → Prop} (hq : ∀ v, F v = some r → Q (.p (g v)) H) : Ze P Gl f args H Q := by
 obtain ⟨v, h1, h2⟩ := Gb h;exact Y1 (hp h1) hf (hq v h2)
theorem cD (h : x.bind F = some r) (hp : ∀ {v}, x = some v → Pure P Gl f pargs (g v)) (hf : FrzL (fun _ => False) H args pargs) {k : AV → List AObj → List Nat → List Nat → Prop} (hq : ∀ v, F v = some r → k (.p (g v)) H [] []) : Z6 P Gl f args H k := by
 obtain ⟨v, h1, h2⟩ := Gb h;exact Qac (hp h1) hf (hq v h2)
theorem cK (h : x.bind F = some r) (hp : ∀ {v}, x = some v → Pure P Gl f pargs (g v)) (hf : FrzL (fun _ => True) H args pargs) {Q : AV → List AObj → Prop} (hq : ∀ v, F v = some r → Q (.p (g v)) H) (hr : ∀ v, Vu (g v) = true := by exact fun _ => rfl) : Ze P Gl f args H Q := by
 obtain ⟨v, h1, h2⟩ := Gb h;exact Q00 (hp h1) hf (hr v) (hq v h2)
end
theorem xR {T : Type} {c : T → List PV} {l : List T} {i : Int} {F : T → Option β} {r : β} (h : (idx l i).bind F = some r) {k : List PV → Prop} (hq : ∀ y, F y = some r → k (c y)) : Qd3 (EP P Gl) (Zc c l) i k := by
 obtain ⟨y, h1, h2⟩ := Gb h;exact Qgs (idx_rows h1) (hq y h2)
theorem xB {l : List UInt8} {i : Int} {F : UInt8 → Option β} {r : β} (h : (idx l i).bind F = some r) {k : UInt8 → Prop} (hq : ∀ y, F y = some r → k y) : Qd3 (EP P Gl) l i k := by
 obtain ⟨y, h1, h2⟩ := Gb h;exact Qgs h1 (hq y h2)
section
variable {ρ : Nat → Nat} {K : Nat → Prop} {H : List AObj}
end
abbrev iI (n : Int) : AV := .p (.int .i64 n)
abbrev iW (n : Int) : AV := .p (.int .u64 n)
abbrev iS (s : List UInt8) : AV := .p (.str s)
abbrev a2 (l : List AV) : List AV := .any :: .any :: l
abbrev a4 (l : List AV) : List AV := .any :: .any :: .any :: .any :: l
abbrev a8 (l : List AV) : List AV := .any :: .any :: .any :: .any :: .any :: .any :: .any :: .any :: l
abbrev a16 (l : List AV) : List AV := a8 (a8 l)
abbrev lb {a b : Nat} (h : Nat.ble a b = true := by rfl) : a ≤ b := Ni h
theorem lpC {τ : Type} (T : τ → List AV) (Hs : τ → List AObj) (L : Nat → τ → Option R) {r : R} {N : Nat} {b : CC} {tm : List AV} {H : List AObj} {Q : CExit → List AV → List AObj → Prop} (s0 : τ) (h : L N s0 = some r) (ρ : Nat → Nat) (hw : Ren ρ H.length tm H (T s0) (Hs s0))
  (Qd : ∀ n s, L (n + 1) s = some r → ev (EP P Gl) b (T s) (Hs s) (Q9g H.length (fun s : Nat × τ => T s.2) (fun s => Hs s.2) (fun s => L s.1 s.2 = some r) (fun s => s.1) (n + 1, s) Q)) (h0 : ∀ s, L 0 s = none := by exact fun _ => rfl) (hl : ∀ s, Nat.ble H.length (Hs s).length = true := by exact fun _ => rfl) : Q2v P Gl b tm H Q := by
 refine Q9n (σ := Nat × τ) (fun s => T s.2) (fun s => Hs s.2) (fun s => L s.1 s.2 = some r) (fun s => s.1) (N, s0) h ⟨ρ, hw⟩ (fun s _ => Ni (hl s.2)) ?_
 rintro ⟨n, s⟩ h
 cases n with
 | zero => rw [h0 s] at h; cases h
 | succ n => exact Qd n s h
section
variable {b : Bool} {x y : Option R} {r : R} {X Y : Prop}
theorem iL (h : cond b x y = some r) (h2 : y = some r → Y) (h1 : x = some r → X := by intro h; cases h; exact .p _) : @Bool.rec (fun _ => Prop) Y X b := iU h h1 h2
theorem iR (h : cond b x y = some r) (h1 : x = some r → X) (h2 : y = some r → Y := by intro h; cases h; exact .p _) : @Bool.rec (fun _ => Prop) Y X b := iU h h1 h2
theorem iB (h : cond b x y = some r) (h1 : x = some r → X := by intro h; cases h; exact .p _) (h2 : y = some r → Y := by intro h; cases h; exact .p _) : @Bool.rec (fun _ => Prop) Y X b := iU h h1 h2
theorem iL2 (h : cond b x y = some r) (h2 : y = some r → Y) (h1 : x = some r → X := by intro h; obtain rfl := Yg h; exact u2) : @Bool.rec (fun _ => Prop) Y X b := iU h h1 h2
theorem iB2 (h : cond b x y = some r) (h1 : x = some r → X := by intro h; obtain rfl := Yg h; exact u2) (h2 : y = some r → Y := by intro h; obtain rfl := Yg h; exact u2) : @Bool.rec (fun _ => Prop) Y X b := iU h h1 h2
theorem oL (h : cond b x y = some r) (h2 : b = false → y = some r → Y) (h1 : b = true → x = some r → X := by intro _ h; cases h; exact .p _) : @Bool.rec (fun _ => Prop) Y X b := ifO h h1 h2
end
theorem sd {n m : Nat} (h : n = m := by first | (simp; done) | (simp [Zc]; done)) : n = m := h
theorem Ud {ρ : Nat → Nat} {n : Nat} {tm tm' : List AV} {H H' : List AObj} (h1 : RenL ρ (KD ρ H') H tm tm' := by repeat' first | exact rN | refine rA ?_ | refine rE rfl ?_ | refine rS ?_ | refine rL (by first | (simp; done) | (simp [Zc]; done) | (simp <;> omega)) rfl ?_ | refine rG (by repeat' first | exact rN | refine rE rfl ?_ | refine rA ?_ | refine rS ?_ | refine rL (by first | (simp; done) | (simp [Zc]; done) | (simp <;> omega)) rfl ?_) ?_ | refine rP (by repeat' first | exact rN | refine rE rfl ?_ | refine rA ?_ | refine rS ?_ | refine rL (by first | (simp; done) | (simp [Zc]; done) | (simp <;> omega)) rfl ?_) ?_ | refine rT (by repeat' first | refine rG (by repeat' first | exact rN | refine rE rfl ?_ | refine rA ?_ | refine rS ?_ | refine rL (by first | (simp; done) | (simp [Zc]; done) | (simp <;> omega)) rfl ?_) ?_ | refine rP (by repeat' first | exact rN | refine rE rfl ?_ | refine rA ?_ | refine rS ?_ | refine rL (by first | (simp; done) | (simp [Zc]; done) | (simp <;> omega)) rfl ?_) ?_ | exact rN | refine rE rfl ?_ | refine rA ?_ | refine rS ?_ | refine rL (by first | (simp; done) | (simp [Zc]; done) | (simp <;> omega)) rfl ?_) ?_) (h2 : Q29 ρ (KD ρ H') H 0 H' := by repeat' first | exact hN | refine hO rfl ?_ | refine hD ?_ | refine hE rfl ?_ | refine hV lb ?_ | refine hC rfl (by repeat' first | exact rN | refine rE rfl ?_ | refine rA ?_ | refine rS ?_ | refine rL (by first | (simp; done) | (simp [Zc]; done) | (simp <;> omega)) rfl ?_) ?_)
  (h3 : Qfk ρ n H' = true := by rfl) (h4 : refsLt.refsLts H'.length tm' = true := by rfl) (h5 : (H'.all (Xm H'.length)) = true := by repeat' first | exact roN | refine roE rfl ?_ | refine roE (Q8g _ _ _) ?_) : Ren ρ n tm H tm' H' := ⟨h1, h2, h3, h4, h5⟩
mutual
theorem Q56 : ∀ v : AV, Vh (fun i => i) v = v
 | .ptr _ _ => rfl
 | .slice _ _ _ _ => rfl
 | .map _ => rfl
 | .agg cs => by simp only [Vh, Jf cs]
 | .tuple cs => by simp only [Vh, Jf cs]
 | .func _ a b => by simp only [Vh, Jf a, Jf b]
 | .iface _ v => by simp only [Vh, Q56 v]
 | .p _ => rfl
 | .gptr _ _ => rfl
 | .rptr _ => rfl
 | .any => rfl
theorem Jf : ∀ l : List AV, Q1f (fun i => i) l = l
 | [] => rfl
 | v :: l => by simp only [Q1f, Q56 v, Jf l]
end
theorem Q4w (o : AObj) : Q3a (fun i => i) o = o := by
 cases o with
 | cells cs => simp only [Q3a, Jf]
 | map es => simp only [Q3a, Q56]; congr 1; exact List.map_id _
 | strIter s p => rfl
 | dead => rfl
 | ext R a => rfl
theorem Qct {K : Nat → Prop} {H : List AObj} : ∀ (i : Nat) (r : List AObj), (∀ j o, r[j]? = some o → H[i + j]? = some o) → Q29 (fun i => i) K H i r
 | _, [], _ => trivial
 | i, o :: r, h => by
  have t : Q29 (fun i => i) K H (i + 1) r := Qct (i + 1) r fun j o' hj => by have := h (j + 1) o' (by simpa using hj); rwa [show i + (j + 1) = i + 1 + j by omega] at this
  have e : H[i]? = some o := by have := h 0 o rfl; simpa using this
  cases o with
  | dead => exact t
  | cells cs => exact hE (by rw [Q4w]; exact e) t
  | map es => exact hE (by rw [Q4w]; exact e) t
  | strIter s p => exact hE (by rw [Q4w]; exact e) t
  | ext R a => exact hE (by rw [Q4w]; exact e) t
theorem Qg7 (n : Nat) (H : List AObj) : Qfk (fun i => i) n H = true := by
 simp only [Qfk, Lp, Lb];intro i _;refine ⟨by simp, fun j _ => ?_⟩
 by_cases h : i = j
 ·simp [h]
 simp [h]
theorem Qw2 {n : Nat} {tm tm' : List AV} {H : List AObj} (h1 : RenL (fun i => i) (KD (fun i => i) H) H tm tm') (h4 : refsLt.refsLts H.length tm' = true) (h5 : (H.all (Xm H.length)) = true) : Ren (fun i => i) n tm H tm' H :=
 ⟨h1, Qct 0 H (fun j o h => by rw [Ly]; exact h), Qg7 n H, h4, h5⟩
theorem lpH {τ : Type} (T : τ → List AV) (L : Nat → τ → Option R) {r : R} {N : Nat} {b : CC} {tm : List AV} {H : List AObj} {Q : CExit → List AV → List AObj → Prop} (s0 : τ) (h : L N s0 = some r)
  (Qd : ∀ n s, L (n + 1) s = some r → ev (EP P Gl) b (T s) H (Q9g H.length (fun s : Nat × τ => T s.2) (fun _ => H) (fun s => L s.1 s.2 = some r) (fun s => s.1) (n + 1, s) Q))
  (h1 : RenL (fun i => i) (KD (fun i => i) H) H tm (T s0) := by repeat' first | exact rN | refine rA ?_ | refine rE rfl ?_) (h4 : refsLt.refsLts H.length (T s0) = true := by rfl) (h5 : (H.all (Xm H.length)) = true := by repeat' first | exact roN | refine roE rfl ?_ | refine roE (Q8g _ _ _) ?_)
  (h0 : ∀ s, L 0 s = none := by exact fun _ => rfl) : Q2v P Gl b tm H Q := by
 refine Q9n (σ := Nat × τ) (fun s => T s.2) (fun _ => H) (fun s => L s.1 s.2 = some r) (fun s => s.1) (N, s0) h ⟨_, Qw2 h1 h4 h5⟩ (fun _ _ => Lj _) ?_
 rintro ⟨n, s⟩ h
 cases n with
 | zero => rw [h0 s] at h; cases h
 | succ n => exact Qd n s h
theorem lpA {τ : Type} (T : τ → List AV) (Hs : τ → List AObj) (L : Nat → τ → Option R) {r : R} {N : Nat} {b : CC} {tm : List AV} {H : List AObj} {Q : CExit → List AV → List AObj → Prop} (s0 : τ) (h : L N s0 = some r)
  (Qd : ∀ n s, L (n + 1) s = some r → ev (EP P Gl) b (T s) (Hs s) (Q9g H.length (fun s : Nat × τ => T s.2) (fun s => Hs s.2) (fun s => L s.1 s.2 = some r) (fun s => s.1) (n + 1, s) Q)) (hw : Ren (fun i => i) H.length tm H (T s0) (Hs s0) := by exact Ud) (h0 : ∀ s, L 0 s = none := by exact fun _ => rfl) (hl : ∀ s, Nat.ble H.length (Hs s).length = true := by exact fun _ => rfl) : Q2v P Gl b tm H Q := lpC T Hs L s0 h _ hw Qd h0 hl
theorem jrH {σ : Type} {r : R} (T : σ → List AV) (J : σ → Option R) {a b : CC} {tm : List AV} {H : List AObj} {Q : CExit → List AV → List AObj → Prop}
  (h1 : ev (EP P Gl) a tm H (Qgp H.length T (fun _ => H) (fun s => J s = some r) Q)) (h2 : ∀ s, J s = some r → ev (EP P Gl) b (T s) H Q) : Qhd P Gl a b tm H Q := Q69 T (fun _ => H) _ (fun _ _ => Lj _) h1 h2
theorem jrA {σ : Type} {r : R} (T : σ → List AV) (Hs : σ → List AObj) (J : σ → Option R) {a b : CC} {tm : List AV} {H : List AObj} {Q : CExit → List AV → List AObj → Prop}
  (h1 : ev (EP P Gl) a tm H (Qgp H.length T Hs (fun s => J s = some r) Q)) (h2 : ∀ s, J s = some r → ev (EP P Gl) b (T s) (Hs s) Q) (hl : ∀ s, Nat.ble H.length (Hs s).length = true := by exact fun _ => rfl) : Qhd P Gl a b tm H Q := Q69 T Hs _ (fun s _ => Ni (hl s)) h1 h2
end
section
variable {P : Program} {Gl : Nat → Option (List PV)} {α β R : Type}
end
end
end Go.Av
