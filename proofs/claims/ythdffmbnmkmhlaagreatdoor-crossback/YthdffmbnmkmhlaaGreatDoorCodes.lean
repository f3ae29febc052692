/- Part of the proof of CrossBack: for every input the law returns true; no condition. -/
import Derived.Test.YthdffmbnmkmhlaaGreatDoorTab16
namespace Go.Av
noncomputable section
open Go.Proofs
set_option maxRecDepth 100000
attribute [local irreducible] Jm Vf Q9a Qfp Qvc Qve
def ofB (n : Int) : Bool := decide (bsI n < 40) && decide (Q0o (bsI n) = n)
def ofC (n : Int) : List PV := if ofB n = true then Ql5 (bsI n) else Qmm 0 0 0 false false
theorem Z3z (n : Int) : Q2j Tryz.prog G1 138 [.int .i64 n] (.tuple [.agg (ofC n), .bool (ofB n)]) := by
 refine Q2 Z8b ?_;refine Uh Qdv .nil ?_;refine Uh (Z3g n) (.cons (.p _) (.cons (.p _) (.cons (.p _) .nil))) ?_;refine ifP (fun h => ?_) (fun h => ?_)
 ·have hb : ofB n = false := by unfold ofB; revert h; cases (decide (bsI n < 40) && decide (Q0o (bsI n) = n)) <;> simp
  refine Frz.tuple' (.cons (.agg' ?_) (.cons (Qcr ?_) .nil))
  ·simp only [ofC, hb, Lf, if_false, Qmm];exact .cons (.p _) (.cons (.p _) (.cons (.p _) (.cons (.p _) (.cons (.p _) .nil))))
  rw [hb]
 have hb : ofB n = true := by unfold ofB; revert h; cases (decide (bsI n < 40) && decide (Q0o (bsI n) = n)) <;> simp
 have hlt : bsI n < 40 := by simp only [ofB, Le, decide_eq_true_eq] at hb; exact hb.1
 refine Z1z (x := Ql5 (bsI n)) (Qd0 _ hlt) ?_;refine Frz.tuple' (.cons (.agg' ?_) (.cons (Qcr ?_) .nil))
 ·simp only [ofC, hb, if_true, Ql5, Qmm];exact .cons (.p _) (.cons (.p _) (.cons (.p _) (.cons (.p _) (.cons (.p _) .nil))))
 rw [hb]
def ofT (n : Int) : Int × Int × Int × Bool × Bool := if ofB n = true then Us (bsI n) else (0, 0, 0, false, false)
def ofR (n : Int) : List PV := Qmm (ofT n).1 (ofT n).2.1 (ofT n).2.2.1 (ofT n).2.2.2.1 (ofT n).2.2.2.2
theorem Z2w (n : Int) : ofC n = ofR n := by
 unfold ofC ofR ofT
 split <;> rfl
theorem Z1k (n : Int) : Q2j Tryz.prog G1 138 [.int .i64 n] (.tuple [.agg (ofR n), .bool (ofB n)]) := by
 rw [← Z2w]; exact Z3z n
end
end Go.Av
namespace Go.Av
noncomputable section
open Go.Proofs
set_option maxRecDepth 100000
attribute [local irreducible] Jm Vf Q9a Qfp Qvc Qve
def Uy (k : Int) : List Int := (List.range 17).flatMap fun (w : Nat) => (tabL.filter fun r => r.2.1 == k && r.2.2.1 == (w : Int)).map (·.1)
def V8 (k : Int) : PV := match Uy k with
 | [] => .nilSlice
 | c :: l => .slice 1 ((c :: l).map fun c => [.int .i64 c])
def Qo0 (k : Nat) : Int := (Us k).2.1
theorem Qr7 : ∀ k, k < 40 → 1 ≤ Qo0 k ∧ Qo0 k ≤ 25 := by decide +kernel
theorem Q88 (k : Int) (h : k < 1 ∨ 25 < k) : Uy k = [] := by
 unfold Uy;rw [List.flatMap_eq_nil_iff];intro w _;rw [List.map_eq_nil_iff, Cl];intro r hr
 have hall : (tabL.all fun r => decide (1 ≤ r.2.1 ∧ r.2.1 ≤ 25)) = true := by decide +kernel
 have := Lq.1 hall r hr;simp only [decide_eq_true_eq] at this;simp only [Le, beq_iff_eq, not_and];intro h1;omega
theorem Qne : Q2j Tryz.prog G1 202 [.nilSlice, .func (.func 203) [] []] (.tuple []) := Qm Vu (N := 1000) (d := 40) (by kernel_rfl)
def coT (kind : Int) (i : Nat) : List AV := .p (.int .i64 kind) :: .any :: .any :: .p .nilSlice :: .any :: .any :: .any :: .any :: .any :: .p Qso :: .p (.int .i64 40) :: .p (.int .i64 i) :: List.replicate 27 .any
def coU (_ : Unit) : List AV := .any :: .any :: .any :: .any :: .any :: .any :: .p .nilSlice :: .any :: .any :: .any :: .any :: .any :: .any :: .any :: .any :: .any :: .any :: .any :: .any :: .any :: .any :: .any :: .any :: .any :: .any :: .any :: .any :: .p (.int .i64 0) :: .p (.int .i64 0) :: List.replicate 10 .any
theorem Qs6 (kind : Int) (h : kind < 1 ∨ 25 < kind) : Q2j Tryz.prog G1 175 [.int .i64 kind] .nilSlice := by
 refine Q2 Zbq ?_;refine Uh Qdv .nil ?_;refine Qe7 (coT kind) (fun _ => []) (fun i => i ≤ 40) (fun i => 40 - i) 0 (Mv _) ⟨⟨rfl, rfl, rfl, rfl, rfl, trivial⟩, rfl, rfl, rfl⟩ (fun _ _ => Lk _) (fun i hi => ?_);refine ifP (fun hc => ?_) (fun hc => ?_)
 ·have hlt : i < 40 := by simp only [Env.c1] at hc; unfold Q3 at hc; simp at hc; omega
  refine Z1z (x := Ql5 i) (Qd0 _ hlt) ?_;refine ifP (fun hk => ?_) (fun hk => ?_)
  ·exfalso;simp only [Env.c1] at hk; unfold Q3 at hk
   have hk : Qo0 i = kind := by simpa [Qo0] using hk
   have := Qr7 i hlt;omega
  refine ⟨i + 1, by show i + 1 ≤ 40; omega, by show 40 - (i + 1) < 40 - i; omega, ⟨rfl, rfl, rfl, rfl, ?_, trivial⟩, rfl, rfl, rfl⟩;rw [IntWalk.i64_in ((i : Int) + 1) (by omega)]; rfl
 refine Uh Qne (.cons (.p _) (.cons (.p _) .nil)) ?_;refine Qe7 coU (fun _ => []) (fun _ => True) (fun _ => 0) () trivial ⟨⟨rfl, rfl, rfl, trivial⟩, rfl, rfl, rfl⟩ (fun _ _ => Lk _) (fun i hi => ?_);refine ifF (cF (by decide)) ?_;exact Qcr rfl
end
end Go.Av
namespace Go.Av
noncomputable section
open Go.Proofs
set_option maxRecDepth 1000000
theorem Z0n : Q2j Tryz.prog G1 175 [.int .i64 1] (V8 1) := Qm Vu (N := 1000) (d := 40) (by kernel_rfl)
theorem Qzn : Q2j Tryz.prog G1 175 [.int .i64 2] (V8 2) := Qm Vu (N := 1000) (d := 40) (by kernel_rfl)
theorem Z0b : Q2j Tryz.prog G1 175 [.int .i64 3] (V8 3) := Qm Vu (N := 1000) (d := 40) (by kernel_rfl)
theorem Z04 : Q2j Tryz.prog G1 175 [.int .i64 4] (V8 4) := Qm Vu (N := 1000) (d := 40) (by kernel_rfl)
theorem Qzc : Q2j Tryz.prog G1 175 [.int .i64 5] (V8 5) := Qm Vu (N := 1000) (d := 40) (by kernel_rfl)
theorem Qzb : Q2j Tryz.prog G1 175 [.int .i64 6] (V8 6) := Qm Vu (N := 1000) (d := 40) (by kernel_rfl)
theorem Z1v : Q2j Tryz.prog G1 175 [.int .i64 7] (V8 7) := Qm Vu (N := 1000) (d := 40) (by kernel_rfl)
theorem Z1b : Q2j Tryz.prog G1 175 [.int .i64 8] (V8 8) := Qm Vu (N := 1000) (d := 40) (by kernel_rfl)
theorem Z08 : Q2j Tryz.prog G1 175 [.int .i64 9] (V8 9) := Qm Vu (N := 1000) (d := 40) (by kernel_rfl)
theorem Qxh : Q2j Tryz.prog G1 175 [.int .i64 10] (V8 10) := Qm Vu (N := 1000) (d := 40) (by kernel_rfl)
theorem Qvs : Q2j Tryz.prog G1 175 [.int .i64 11] (V8 11) := Qm Vu (N := 1000) (d := 40) (by kernel_rfl)
theorem Qx5 : Q2j Tryz.prog G1 175 [.int .i64 12] (V8 12) := Qm Vu (N := 1000) (d := 40) (by kernel_rfl)
theorem Qwj : Q2j Tryz.prog G1 175 [.int .i64 13] (V8 13) := Qm Vu (N := 1000) (d := 40) (by kernel_rfl)
theorem Qxt : Q2j Tryz.prog G1 175 [.int .i64 14] (V8 14) := Qm Vu (N := 1000) (d := 40) (by kernel_rfl)
theorem Qxg : Q2j Tryz.prog G1 175 [.int .i64 15] (V8 15) := Qm Vu (N := 1000) (d := 40) (by kernel_rfl)
theorem Qwr : Q2j Tryz.prog G1 175 [.int .i64 16] (V8 16) := Qm Vu (N := 1000) (d := 40) (by kernel_rfl)
theorem Qxf : Q2j Tryz.prog G1 175 [.int .i64 17] (V8 17) := Qm Vu (N := 1000) (d := 40) (by kernel_rfl)
theorem Qvz : Q2j Tryz.prog G1 175 [.int .i64 18] (V8 18) := Qm Vu (N := 1000) (d := 40) (by kernel_rfl)
theorem Qvx : Q2j Tryz.prog G1 175 [.int .i64 19] (V8 19) := Qm Vu (N := 1000) (d := 40) (by kernel_rfl)
theorem Qx9 : Q2j Tryz.prog G1 175 [.int .i64 20] (V8 20) := Qm Vu (N := 1000) (d := 40) (by kernel_rfl)
theorem Qwm : Q2j Tryz.prog G1 175 [.int .i64 21] (V8 21) := Qm Vu (N := 1000) (d := 40) (by kernel_rfl)
theorem Qxw : Q2j Tryz.prog G1 175 [.int .i64 22] (V8 22) := Qm Vu (N := 1000) (d := 40) (by kernel_rfl)
theorem Qwy : Q2j Tryz.prog G1 175 [.int .i64 23] (V8 23) := Qm Vu (N := 1000) (d := 40) (by kernel_rfl)
theorem Qvo : Q2j Tryz.prog G1 175 [.int .i64 24] (V8 24) := Qm Vu (N := 1000) (d := 40) (by kernel_rfl)
theorem Qwo : Q2j Tryz.prog G1 175 [.int .i64 25] (V8 25) := Qm Vu (N := 1000) (d := 40) (by kernel_rfl)
theorem Qrz (kind : Int) : Q2j Tryz.prog G1 175 [.int .i64 kind] (V8 kind) := by
 by_cases h : kind < 1 ∨ 25 < kind
 ·have := Qs6 kind h;rw [V8, Q88 kind h]; exact this
 have h1 : 1 ≤ kind := by omega
 have h2 : kind ≤ 25 := by omega
 have h3 : kind = 1 ∨ kind = 2 ∨ kind = 3 ∨ kind = 4 ∨ kind = 5 ∨ kind = 6 ∨ kind = 7 ∨ kind = 8 ∨ kind = 9 ∨ kind = 10 ∨ kind = 11 ∨ kind = 12 ∨ kind = 13 ∨ kind = 14 ∨ kind = 15 ∨ kind = 16 ∨ kind = 17 ∨ kind = 18 ∨ kind = 19 ∨ kind = 20 ∨ kind = 21 ∨ kind = 22 ∨ kind = 23 ∨ kind = 24 ∨ kind = 25 := by omega
 clear h h1 h2
 rcases h3 with rfl | rfl | rfl | rfl | rfl | rfl | rfl | rfl | rfl | rfl | rfl | rfl | rfl | rfl | rfl | rfl | rfl | rfl | rfl | rfl | rfl | rfl | rfl | rfl | rfl
 ·exact Z0n
 ·exact Qzn
 ·exact Z0b
 ·exact Z04
 ·exact Qzc
 ·exact Qzb
 ·exact Z1v
 ·exact Z1b
 ·exact Z08
 ·exact Qxh
 ·exact Qvs
 ·exact Qx5
 ·exact Qwj
 ·exact Qxt
 ·exact Qxg
 ·exact Qwr
 ·exact Qxf
 ·exact Qvz
 ·exact Qvx
 ·exact Qx9
 ·exact Qwm
 ·exact Qxw
 ·exact Qwy
 ·exact Qvo
 exact Qwo
end
end Go.Av
