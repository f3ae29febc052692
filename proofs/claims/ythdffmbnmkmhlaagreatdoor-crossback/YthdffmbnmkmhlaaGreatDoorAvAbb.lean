/- Part of the proof of CrossBack: for every input the law returns true; no condition. -/
import Derived.Test.YthdffmbnmkmhlaaGreatDoorAvGc
import Derived.Test.YthdffmbnmkmhlaaGreatDoorAvDrawt
import Derived.Test.YthdffmbnmkmhlaaGreatDoorAvSelf
namespace Go.Av
noncomputable section
section
variable {P : Program} {Gl : Nat → Option (List PV)} {α β R : Type}
theorem iU {b : Bool} {x y : Option R} {r : R} {X Y : Prop} (h : cond b x y = some r) (h1 : x = some r → X) (h2 : y = some r → Y) : @Bool.rec (fun _ => Prop) Y X b := ifO h (fun _ => h1) (fun _ => h2)
theorem kU {b : Bool} {x : Option R} {r : R} {X : Prop} (h : cond b x none = some r) (h1 : x = some r → X) : @Bool.rec (fun _ => Prop) (EP P Gl).fail X b := by
 obtain ⟨h2, h3⟩ := Qtj h;exact Qjc h2 (h1 h3)
section
variable {K : Nat → Prop} {H : List AObj} {a b c d e f : PV}
theorem p0 : FrzL K H [] [] := .nil
theorem p1 : FrzL K H [.p a] [a] := .cons (.p _) .nil
theorem p2 : FrzL K H [.p a, .p b] [a, b] := .cons (.p _) p1
theorem p3 : FrzL K H [.p a, .p b, .p c] [a, b, c] := .cons (.p _) p2
theorem p4 : FrzL K H [.p a, .p b, .p c, .p d] [a, b, c, d] := .cons (.p _) p3
theorem p5 : FrzL K H [.p a, .p b, .p c, .p d, .p e] [a, b, c, d, e] := .cons (.p _) p4
theorem q4 : Frz K H (.agg [.p a, .p b, .p c, .p d]) (.agg [a, b, c, d]) := Frz.agg' p4
theorem q2 : Frz K H (.agg [.p a, .p b]) (.agg [a, b]) := Frz.agg' p2
theorem u2 : Frz K H (.tuple [.p a, .p b]) (.tuple [a, b]) := Frz.tuple' p2
theorem q4n {n : Nat} : Frz K H (.agg [.p a, .p b, .p c, .p .nilSlice]) (.agg [a, b, c, .slice n []]) := Frz.agg' (.cons (.p _) (.cons (.p _) (.cons (.p _) (.cons (.nil _) .nil))))
end
section
variable {x : Option α} {F : α → Option β} {r : β} {f : Nat} {pargs : List PV} {g : α → PV} {H : List AObj} {args : List AV}
theorem cP (h : x.bind F = some r) (hp : ∀ {v}, x = some v → Q2j P Gl f pargs (g v)) (hf : FrzL (fun _ => False) H args pargs) {Q : AV → List AObj → Prop} (hq : ∀ v, F v = some r → Q (.p (g v)) H) : Vf P Gl f args H Q := by
 obtain ⟨v, h1, h2⟩ := Q0a h;exact Uh (hp h1) hf (hq v h2)
theorem cD (h : x.bind F = some r) (hp : ∀ {v}, x = some v → Q2j P Gl f pargs (g v)) (hf : FrzL (fun _ => False) H args pargs) {k : AV → List AObj → List Nat → List Nat → Prop} (hq : ∀ v, F v = some r → k (.p (g v)) H [] []) : Jm P Gl f args H k := by
 obtain ⟨v, h1, h2⟩ := Q0a h;exact Q2i (hp h1) hf (hq v h2)
theorem cK (h : x.bind F = some r) (hp : ∀ {v}, x = some v → Q2j P Gl f pargs (g v)) (hf : FrzL (fun _ => True) H args pargs) {Q : AV → List AObj → Prop} (hq : ∀ v, F v = some r → Q (.p (g v)) H) (hr : ∀ v, Q6r (g v) = true := by exact fun _ => rfl) : Vf P Gl f args H Q := by
 obtain ⟨v, h1, h2⟩ := Q0a h;exact Qe6 (hp h1) hf (hr v) (hq v h2)
end
theorem xR {T : Type} {c : T → List PV} {l : List T} {i : Int} {F : T → Option β} {r : β} (h : (idx l i).bind F = some r) {k : List PV → Prop} (hq : ∀ y, F y = some r → k (c y)) : Qva (EP P Gl) (Qd c l) i k := by
 obtain ⟨y, h1, h2⟩ := Q0a h;exact Z1z (idx_rows h1) (hq y h2)
theorem xB {l : List UInt8} {i : Int} {F : UInt8 → Option β} {r : β} (h : (idx l i).bind F = some r) {k : UInt8 → Prop} (hq : ∀ y, F y = some r → k y) : Qva (EP P Gl) l i k := by
 obtain ⟨y, h1, h2⟩ := Q0a h;exact Z1z h1 (hq y h2)
section
variable {ρ : Nat → Nat} {K : Nat → Prop} {H : List AObj}
theorem rW {v1 v2 : AV} {vs us : List AV} (h : RenL ρ K H vs us) : RenL ρ K H (v1 :: v2 :: vs) (.any :: .any :: us) := rA (rA h)
theorem rV {v1 v2 v3 v4 : AV} {vs us : List AV} (h : RenL ρ K H vs us) : RenL ρ K H (v1 :: v2 :: v3 :: v4 :: vs) (.any :: .any :: .any :: .any :: us) := rW (rW h)
theorem rX {v1 v2 v3 v4 v5 v6 v7 v8 : AV} {vs us : List AV} (h : RenL ρ K H vs us) : RenL ρ K H (v1 :: v2 :: v3 :: v4 :: v5 :: v6 :: v7 :: v8 :: vs) (.any :: .any :: .any :: .any :: .any :: .any :: .any :: .any :: us) := rV (rV h)
end
abbrev iI (n : Int) : AV := .p (.int .i64 n)
abbrev iW (n : Int) : AV := .p (.int .u64 n)
abbrev iS (s : List UInt8) : AV := .p (.str s)
abbrev a2 (l : List AV) : List AV := .any :: .any :: l
abbrev a4 (l : List AV) : List AV := .any :: .any :: .any :: .any :: l
abbrev a8 (l : List AV) : List AV := .any :: .any :: .any :: .any :: .any :: .any :: .any :: .any :: l
abbrev a16 (l : List AV) : List AV := a8 (a8 l)
abbrev lb {a b : Nat} (h : Nat.ble a b = true := by rfl) : a ≤ b := Bq h
theorem lpC {τ : Type} (T : τ → List AV) (Hs : τ → List AObj) (L : Nat → τ → Option R) {r : R} {N : Nat} {b : CC} {tm : List AV} {H : List AObj} {Q : CExit → List AV → List AObj → Prop} (s0 : τ) (h : L N s0 = some r) (ρ : Nat → Nat) (hw : Ren ρ H.length tm H (T s0) (Hs s0))
  (Qr : ∀ n s, L (n + 1) s = some r → ev (EP P Gl) b (T s) (Hs s) (Qpo H.length (fun s : Nat × τ => T s.2) (fun s => Hs s.2) (fun s => L s.1 s.2 = some r) (fun s => s.1) (n + 1, s) Q)) (h0 : ∀ s, L 0 s = none := by exact fun _ => rfl) (hl : ∀ s, Nat.ble H.length (Hs s).length = true := by exact fun _ => rfl) : Q9a P Gl b tm H Q := by
 refine Qon (σ := Nat × τ) (fun s => T s.2) (fun s => Hs s.2) (fun s => L s.1 s.2 = some r) (fun s => s.1) (N, s0) h ⟨ρ, hw⟩ (fun s _ => Bq (hl s.2)) ?_
 rintro ⟨n, s⟩ h
 cases n with
 | zero => rw [h0 s] at h; cases h
 | succ n => exact Qr n s h
section
variable {b : Bool} {x y : Option R} {r : R} {X Y : Prop}
theorem iL (h : cond b x y = some r) (h2 : y = some r → Y) (h1 : x = some r → X := by intro h; cases h; exact .p _) : @Bool.rec (fun _ => Prop) Y X b := iU h h1 h2
theorem iR (h : cond b x y = some r) (h1 : x = some r → X) (h2 : y = some r → Y := by intro h; cases h; exact .p _) : @Bool.rec (fun _ => Prop) Y X b := iU h h1 h2
theorem iB (h : cond b x y = some r) (h1 : x = some r → X := by intro h; cases h; exact .p _) (h2 : y = some r → Y := by intro h; cases h; exact .p _) : @Bool.rec (fun _ => Prop) Y X b := iU h h1 h2
theorem iL2 (h : cond b x y = some r) (h2 : y = some r → Y) (h1 : x = some r → X := by intro h; obtain rfl := Yg h; exact u2) : @Bool.rec (fun _ => Prop) Y X b := iU h h1 h2
theorem iB2 (h : cond b x y = some r) (h1 : x = some r → X := by intro h; obtain rfl := Yg h; exact u2) (h2 : y = some r → Y := by intro h; obtain rfl := Yg h; exact u2) : @Bool.rec (fun _ => Prop) Y X b := iU h h1 h2
theorem oL (h : cond b x y = some r) (h2 : b = false → y = some r → Y) (h1 : b = true → x = some r → X := by intro _ h; cases h; exact .p _) : @Bool.rec (fun _ => Prop) Y X b := ifO h h1 h2
theorem dT (h : X) (hb : b = true := by exact cF (by decide)) : @Bool.rec (fun _ => Prop) Y X b := ifT hb h
theorem dF (h : Y) (hb : b = false := by exact cF (by decide)) : @Bool.rec (fun _ => Prop) Y X b := ifF hb h
end
theorem sd {n m : Nat} (h : n = m := by first | (simp; done) | (simp [Qd]; done)) : n = m := h
theorem X2 {ρ : Nat → Nat} {n : Nat} {tm tm' : List AV} {H H' : List AObj} (h1 : RenL ρ (KD ρ H') H tm tm' := by repeat' first | exact rN | refine rA ?_ | refine rE rfl ?_ | refine rS ?_ | refine rL (by first | (simp; done) | (simp [Qd]; done) | (simp <;> omega)) rfl ?_ | refine rG (by repeat' first | exact rN | refine rE rfl ?_ | refine rA ?_ | refine rS ?_ | refine rL (by first | (simp; done) | (simp [Qd]; done) | (simp <;> omega)) rfl ?_) ?_ | refine rP (by repeat' first | exact rN | refine rE rfl ?_ | refine rA ?_ | refine rS ?_ | refine rL (by first | (simp; done) | (simp [Qd]; done) | (simp <;> omega)) rfl ?_) ?_ | refine rT (by repeat' first | refine rG (by repeat' first | exact rN | refine rE rfl ?_ | refine rA ?_ | refine rS ?_ | refine rL (by first | (simp; done) | (simp [Qd]; done) | (simp <;> omega)) rfl ?_) ?_ | refine rP (by repeat' first | exact rN | refine rE rfl ?_ | refine rA ?_ | refine rS ?_ | refine rL (by first | (simp; done) | (simp [Qd]; done) | (simp <;> omega)) rfl ?_) ?_ | exact rN | refine rE rfl ?_ | refine rA ?_ | refine rS ?_ | refine rL (by first | (simp; done) | (simp [Qd]; done) | (simp <;> omega)) rfl ?_) ?_) (h2 : Qcy ρ (KD ρ H') H 0 H' := by repeat' first | exact hN | refine hO rfl ?_ | refine hD ?_ | refine hE rfl ?_ | refine hV lb ?_ | refine hC rfl (by repeat' first | exact rN | refine rE rfl ?_ | refine rA ?_ | refine rS ?_ | refine rL (by first | (simp; done) | (simp [Qd]; done) | (simp <;> omega)) rfl ?_) ?_)
  (h3 : Qyn ρ n H' = true := by rfl) (h4 : refsLt.refsLts H'.length tm' = true := by rfl) (h5 : (H'.all (Q0w H'.length)) = true := by repeat' first | exact roN | refine roE rfl ?_ | refine roE (Qd6 _ _ _) ?_) : Ren ρ n tm H tm' H' := ⟨h1, h2, h3, h4, h5⟩
mutual
theorem Qmw : ∀ v : AV, Q5b (fun i => i) v = v
 | .ptr _ _ => rfl
 | .slice _ _ _ _ => rfl
 | .map _ => rfl
 | .agg cs => by simp only [Q5b, Q87 cs]
 | .tuple cs => by simp only [Q5b, Q87 cs]
 | .func _ a b => by simp only [Q5b, Q87 a, Q87 b]
 | .iface _ v => by simp only [Q5b, Qmw v]
 | .p _ => rfl
 | .gptr _ _ => rfl
 | .rptr _ => rfl
 | .any => rfl
theorem Q87 : ∀ l : List AV, Qcw (fun i => i) l = l
 | [] => rfl
 | v :: l => by simp only [Qcw, Qmw v, Q87 l]
end
theorem Qi7 (o : AObj) : Qlz (fun i => i) o = o := by
 cases o with
 | cells cs => simp only [Qlz, Q87]
 | map es => simp only [Qlz, Qmw]; congr 1; exact List.map_id _
 | strIter s p => rfl
 | dead => rfl
 | ext R a => rfl
theorem Qtt {K : Nat → Prop} {H : List AObj} : ∀ (i : Nat) (r : List AObj), (∀ j o, r[j]? = some o → H[i + j]? = some o) → Qcy (fun i => i) K H i r
 | _, [], _ => trivial
 | i, o :: r, h => by
  have t : Qcy (fun i => i) K H (i + 1) r := Qtt (i + 1) r fun j o' hj => by have := h (j + 1) o' (by simpa using hj); rwa [show i + (j + 1) = i + 1 + j by omega] at this
  have e : H[i]? = some o := by have := h 0 o rfl; simpa using this
  cases o with
  | dead => exact t
  | cells cs => exact hE (by rw [Qi7]; exact e) t
  | map es => exact hE (by rw [Qi7]; exact e) t
  | strIter s p => exact hE (by rw [Qi7]; exact e) t
  | ext R a => exact hE (by rw [Qi7]; exact e) t
theorem Qzm (n : Nat) (H : List AObj) : Qyn (fun i => i) n H = true := by
 simp only [Qyn, Lq, Le];intro i _;refine ⟨by simp, fun j _ => ?_⟩
 by_cases h : i = j
 ·simp [h]
 simp [h]
theorem Zio {n : Nat} {tm tm' : List AV} {H : List AObj} (h1 : RenL (fun i => i) (KD (fun i => i) H) H tm tm') (h4 : refsLt.refsLts H.length tm' = true) (h5 : (H.all (Q0w H.length)) = true) : Ren (fun i => i) n tm H tm' H :=
 ⟨h1, Qtt 0 H (fun j o h => by rw [Mm]; exact h), Qzm n H, h4, h5⟩
theorem lpH {τ : Type} (T : τ → List AV) (L : Nat → τ → Option R) {r : R} {N : Nat} {b : CC} {tm : List AV} {H : List AObj} {Q : CExit → List AV → List AObj → Prop} (s0 : τ) (h : L N s0 = some r)
  (Qr : ∀ n s, L (n + 1) s = some r → ev (EP P Gl) b (T s) H (Qpo H.length (fun s : Nat × τ => T s.2) (fun _ => H) (fun s => L s.1 s.2 = some r) (fun s => s.1) (n + 1, s) Q))
  (h1 : RenL (fun i => i) (KD (fun i => i) H) H tm (T s0) := by repeat' first | exact rN | refine rA ?_ | refine rE rfl ?_) (h4 : refsLt.refsLts H.length (T s0) = true := by rfl) (h5 : (H.all (Q0w H.length)) = true := by repeat' first | exact roN | refine roE rfl ?_ | refine roE (Qd6 _ _ _) ?_)
  (h0 : ∀ s, L 0 s = none := by exact fun _ => rfl) : Q9a P Gl b tm H Q := by
 refine Qon (σ := Nat × τ) (fun s => T s.2) (fun _ => H) (fun s => L s.1 s.2 = some r) (fun s => s.1) (N, s0) h ⟨_, Zio h1 h4 h5⟩ (fun _ _ => Lk _) ?_
 rintro ⟨n, s⟩ h
 cases n with
 | zero => rw [h0 s] at h; cases h
 | succ n => exact Qr n s h
theorem lpA {τ : Type} (T : τ → List AV) (Hs : τ → List AObj) (L : Nat → τ → Option R) {r : R} {N : Nat} {b : CC} {tm : List AV} {H : List AObj} {Q : CExit → List AV → List AObj → Prop} (s0 : τ) (h : L N s0 = some r)
  (Qr : ∀ n s, L (n + 1) s = some r → ev (EP P Gl) b (T s) (Hs s) (Qpo H.length (fun s : Nat × τ => T s.2) (fun s => Hs s.2) (fun s => L s.1 s.2 = some r) (fun s => s.1) (n + 1, s) Q)) (hw : Ren (fun i => i) H.length tm H (T s0) (Hs s0) := by exact X2) (h0 : ∀ s, L 0 s = none := by exact fun _ => rfl) (hl : ∀ s, Nat.ble H.length (Hs s).length = true := by exact fun _ => rfl) : Q9a P Gl b tm H Q := lpC T Hs L s0 h _ hw Qr h0 hl
theorem jrH {σ : Type} {r : R} (T : σ → List AV) (J : σ → Option R) {a b : CC} {tm : List AV} {H : List AObj} {Q : CExit → List AV → List AObj → Prop}
  (h1 : ev (EP P Gl) a tm H (Qwq H.length T (fun _ => H) (fun s => J s = some r) Q)) (h2 : ∀ s, J s = some r → ev (EP P Gl) b (T s) H Q) : Z3b P Gl a b tm H Q := Q1v T (fun _ => H) _ (fun _ _ => Lk _) h1 h2
theorem jrA {σ : Type} {r : R} (T : σ → List AV) (Hs : σ → List AObj) (J : σ → Option R) {a b : CC} {tm : List AV} {H : List AObj} {Q : CExit → List AV → List AObj → Prop}
  (h1 : ev (EP P Gl) a tm H (Qwq H.length T Hs (fun s => J s = some r) Q)) (h2 : ∀ s, J s = some r → ev (EP P Gl) b (T s) (Hs s) Q) (hl : ∀ s, Nat.ble H.length (Hs s).length = true := by exact fun _ => rfl) : Z3b P Gl a b tm H Q := Q1v T Hs _ (fun s _ => Bq (hl s)) h1 h2
end
section
variable {P : Program} {Gl : Nat → Option (List PV)} {α β R : Type}
noncomputable def Zfo (H l : List AObj) (k : List AObj → Prop) : Prop := @List.rec AObj (fun _ => (List AObj → Prop) → Prop) (fun k => k l) (fun o _ ih k => ih fun r => k (o :: r)) H k
theorem Qrr : ∀ (H l : List AObj) (k : List AObj → Prop), Zfo H l k = k (H ++ l)
 | [], l, k => rfl
 | o :: H, l, k => Qrr H l fun r => k (o :: r)
theorem Qog {f : Nat → Nat} {H H1 : List AObj} : ∀ (r : List AObj) (i : Nat), i + r.length = H.length + H1.length → (∀ j o, r[j]? = some o → (H ++ H1.map (Qlz (Qrf f 0 H.length)))[i + j]? = some o) → Qrv f H [] H1 i r
 | [], _, _, _ => trivial
 | o :: r, i, hl, h => by
  rw [Lz] at hl
  have t : Qrv f H [] H1 (i + 1) r := Qog r (i + 1) (by omega) fun j o' hj => by have := h (j + 1) o' (by simpa using hj); rwa [show i + (j + 1) = i + 1 + j by omega] at this
  have e := h 0 o rfl;rw [Nx] at e;refine fX ?_ t
  by_cases hi : i < H.length
  ·rw [Lr hi] at e;exact .inl ⟨rfl, e⟩
  rw [Ly (by omega), Ll] at e
  cases hq : H1[i - H.length]? with
  | none => rw [hq] at e; cases e
  | some o1 =>
   rw [hq] at e;exact .inr ⟨i - H.length, o1, hq, by simp only [Qrf]; rw [if_neg (by simp)]; simp; omega, fun h => by simp at h, (Option.some.inj e).symm⟩
theorem cO {x : Option α} {F : α → Option β} {r : β} {f : Nat} {a0 args : List AV} {H : List AObj} {gr : α → AV} {g1 : α → List AObj} (h : x.bind F = some r) (hp : ∀ {v}, x = some v → GC P Gl f a0 [] (gr v) (g1 v)) (r2 : α → AV) (hf : RenL (fun i => i) (fun _ => False) H args a0)
  {Q : AV → List AObj → Prop} (hq : ∀ v, F v = some r → Zfo H (g1 v) fun H2 => Q (r2 v) H2) (hr : ∀ v, Q5b (Qrf (fun i => i) 0 H.length) (gr v) = r2 v := by exact fun _ => rfl)
  (ho : ∀ v s, (g1 v).map (Qlz s) = g1 v := by intro v s; repeat' first | exact oN | refine oW ?_) (hra : refsLt.refsLts 0 a0 = true := by rfl) : Vf P Gl f args H Q := by
 obtain ⟨v, h1, h2⟩ := Q0a h;have hq := hq v h2;rw [Qrr] at hq;refine Z0s (hp h1) (fun i => i) hf trivial rfl hra rfl (H ++ g1 v) (by simp) (Qog (H1 := g1 v) _ 0 (by simp) fun j o hj => by rw [Mm, ho]; exact hj) (r2 v) (hr v) hq
end
end
end Go.Av
