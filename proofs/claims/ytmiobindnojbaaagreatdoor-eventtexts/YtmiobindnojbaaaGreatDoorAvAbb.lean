/- An abstract machine for the modelled code, and what its runs say of real calls. Part of a proof of a given statement: for every input the law returns true and the arguments read as before; no condition beyond the given row. -/
import Derived.Test.YtmiobindnojbaaaGreatDoorAvGc
import Derived.Test.YtmiobindnojbaaaGreatDoorAvDrawt
import Derived.Test.YtmiobindnojbaaaGreatDoorAvSelf
import Derived.Test.YtmiobindnojbaaaGreatDoorAvTrans2
namespace Go.Av
noncomputable section
section
variable {P : Program} {Gl : Nat → Option (List PV)} {α β R : Type}
theorem iU {b : Bool} {x y : Option R} {r : R} {X Y : Prop} (h : cond b x y = some r) (h1 : x = some r → X) (h2 : y = some r → Y) : @Bool.rec (fun _ => Prop) Y X b := ifO h (fun _ => h1) (fun _ => h2)
theorem kU {b : Bool} {x : Option R} {r : R} {X : Prop} (h : cond b x none = some r) (h1 : x = some r → X) : @Bool.rec (fun _ => Prop) (EP P Gl).fail X b := by
 obtain ⟨h2, h3⟩ := Qcm h
 exact Q4t h2 (h1 h3)
section
variable {K : Nat → Prop} {H : List AObj} {a b c d e f : PV}
theorem p0 : FrzL K H [] [] := .nil
theorem p1 : FrzL K H [.p a] [a] := .cons (.p _) .nil
theorem p2 : FrzL K H [.p a, .p b] [a, b] := .cons (.p _) p1
theorem p3 : FrzL K H [.p a, .p b, .p c] [a, b, c] := .cons (.p _) p2
theorem p4 : FrzL K H [.p a, .p b, .p c, .p d] [a, b, c, d] := .cons (.p _) p3
theorem p5 : FrzL K H [.p a, .p b, .p c, .p d, .p e] [a, b, c, d, e] := .cons (.p _) p4
theorem q4 : Frz K H (.agg [.p a, .p b, .p c, .p d]) (.agg [a, b, c, d]) := Frz.agg' p4
theorem q2 : Frz K H (.agg [.p a, .p b]) (.agg [a, b]) := Frz.agg' p2
theorem u2 : Frz K H (.tuple [.p a, .p b]) (.tuple [a, b]) := Frz.tuple' p2
theorem q4n {n : Nat} : Frz K H (.agg [.p a, .p b, .p c, .p .nilSlice]) (.agg [a, b, c, .slice n []]) := Frz.agg' (.cons (.p _) (.cons (.p _) (.cons (.p _) (.cons (.nil _) .nil))))
end
section
variable {x : Option α} {F : α → Option β} {r : β} {f : Nat} {pargs : List PV} {g : α → PV} {H : List AObj} {args : List AV}
theorem cP (h : x.bind F = some r) (hp : ∀ {v}, x = some v → Xl P Gl f pargs (g v)) (hf : FrzL (fun _ => False) H args pargs) {Q : AV → List AObj → Prop} (hq : ∀ v, F v = some r → Q (.p (g v)) H) : Yl P Gl f args H Q := by
 obtain ⟨v, h1, h2⟩ := Jh h
 exact Wd (hp h1) hf (hq v h2)
theorem cD (h : x.bind F = some r) (hp : ∀ {v}, x = some v → Xl P Gl f pargs (g v)) (hf : FrzL (fun _ => False) H args pargs) {k : AV → List AObj → List Nat → List Nat → Prop} (hq : ∀ v, F v = some r → k (.p (g v)) H [] []) : Wa P Gl f args H k := by
 obtain ⟨v, h1, h2⟩ := Jh h
 exact V1 (hp h1) hf (hq v h2)
end
theorem xR {T : Type} {c : T → List PV} {l : List T} {i : Int} {F : T → Option β} {r : β} (h : (idx l i).bind F = some r) {k : List PV → Prop} (hq : ∀ y, F y = some r → k (c y)) : Qgj (EP P Gl) (Q7 c l) i k := by
 obtain ⟨y, h1, h2⟩ := Jh h
 exact Qmg (idx_rows h1) (hq y h2)
theorem xB {l : List UInt8} {i : Int} {F : UInt8 → Option β} {r : β} (h : (idx l i).bind F = some r) {k : UInt8 → Prop} (hq : ∀ y, F y = some r → k y) : Qgj (EP P Gl) l i k := by
 obtain ⟨y, h1, h2⟩ := Jh h
 exact Qmg h1 (hq y h2)
section
variable {ρ : Nat → Nat} {K : Nat → Prop} {H : List AObj}
theorem rW {v1 v2 : AV} {vs us : List AV} (h : Q52 ρ K H vs us) : Q52 ρ K H (v1 :: v2 :: vs) (.any :: .any :: us) := rA (rA h)
theorem rV {v1 v2 v3 v4 : AV} {vs us : List AV} (h : Q52 ρ K H vs us) : Q52 ρ K H (v1 :: v2 :: v3 :: v4 :: vs) (.any :: .any :: .any :: .any :: us) := rW (rW h)
theorem rX {v1 v2 v3 v4 v5 v6 v7 v8 : AV} {vs us : List AV} (h : Q52 ρ K H vs us) : Q52 ρ K H (v1 :: v2 :: v3 :: v4 :: v5 :: v6 :: v7 :: v8 :: vs) (.any :: .any :: .any :: .any :: .any :: .any :: .any :: .any :: us) := rV (rV h)
end
abbrev iI (n : Int) : AV := .p (.int .i64 n)
abbrev iW (n : Int) : AV := .p (.int .u64 n)
abbrev iS (s : List UInt8) : AV := .p (.str s)
abbrev a2 (l : List AV) : List AV := .any :: .any :: l
abbrev a4 (l : List AV) : List AV := .any :: .any :: .any :: .any :: l
abbrev a8 (l : List AV) : List AV := .any :: .any :: .any :: .any :: .any :: .any :: .any :: .any :: l
abbrev a16 (l : List AV) : List AV := a8 (a8 l)
abbrev lb {a b : Nat} (h : Nat.ble a b = true := by rfl) : a ≤ b := Nat.le_of_ble_eq_true h
theorem lpC {τ : Type} (T : τ → List AV) (Hs : τ → List AObj) (L : Nat → τ → Option R) {r : R} {N : Nat} {b : CC} {tm : List AV} {H : List AObj} {Q : CExit → List AV → List AObj → Prop} (s0 : τ) (h : L N s0 = some r) (ρ : Nat → Nat) (hw : Ren ρ H.length tm H (T s0) (Hs s0))
  (Qm : ∀ n s, L (n + 1) s = some r → ev (EP P Gl) b (T s) (Hs s) (Qh0 H.length (fun s : Nat × τ => T s.2) (fun s => Hs s.2) (fun s => L s.1 s.2 = some r) (fun s => s.1) (n + 1, s) Q)) (h0 : ∀ s, L 0 s = none := by exact fun _ => rfl) (hl : ∀ s, Nat.ble H.length (Hs s).length = true := by exact fun _ => rfl) : Q8h P Gl b tm H Q := by
 refine Qgi (σ := Nat × τ) (fun s => T s.2) (fun s => Hs s.2) (fun s => L s.1 s.2 = some r) (fun s => s.1) (N, s0) h ⟨ρ, hw⟩ (fun s _ => Nat.le_of_ble_eq_true (hl s.2)) ?_
 rintro ⟨n, s⟩ h
 cases n with
 | zero => rw [h0 s] at h; cases h
 | succ n => exact Qm n s h
end
end
end Go.Av
