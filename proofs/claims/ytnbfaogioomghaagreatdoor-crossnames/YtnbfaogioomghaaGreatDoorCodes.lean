/- Part of the proof of CrossNames: for every input the law returns true; no condition. -/
import Derived.Test.YtnbfaogioomghaaGreatDoorTab16
namespace Go.Av
noncomputable section
open Go.Proofs
set_option maxRecDepth 100000
attribute [local irreducible] Z6 Ze Q2v Q3c Qfz Qfn
def ofB (n : Int) : Bool := decide (bsI n < 40) && decide (Vf (bsI n) = n)
def ofC (n : Int) : List PV := if ofB n = true then Q7a (bsI n) else Q7r 0 0 0 false false
theorem Qib (n : Int) : Pure Tryz.prog G1 133 [.int .i64 n] (.tuple [.agg (ofC n), .bool (ofB n)]) := by
 refine Q8 Qm9 ?_;refine Y1 Q2r .nil ?_;refine Y1 (Qi7 n) (.cons (.p _) (.cons (.p _) (.cons (.p _) .nil))) ?_;refine ifP (fun h => ?_) (fun h => ?_)
 ·have hb : ofB n = false := by unfold ofB; revert h; cases (decide (bsI n < 40) && decide (Vf (bsI n) = n)) <;> simp
  refine Frz.tuple' (.cons (.agg' ?_) (.cons (Q1i ?_) .nil))
  ·simp only [ofC, hb, Ls, if_false, Q7r];exact .cons (.p _) (.cons (.p _) (.cons (.p _) (.cons (.p _) (.cons (.p _) .nil))))
  rw [hb]
 have hb : ofB n = true := by unfold ofB; revert h; cases (decide (bsI n < 40) && decide (Vf (bsI n) = n)) <;> simp
 have hlt : bsI n < 40 := by simp only [ofB, Lb, decide_eq_true_eq] at hb; exact hb.1
 refine Qgs (x := Q7a (bsI n)) (Q1q _ hlt) ?_;refine Frz.tuple' (.cons (.agg' ?_) (.cons (Q1i ?_) .nil))
 ·simp only [ofC, hb, if_true, Q7a, Q7r];exact .cons (.p _) (.cons (.p _) (.cons (.p _) (.cons (.p _) (.cons (.p _) .nil))))
 rw [hb]
def ofT (n : Int) : Int × Int × Int × Bool × Bool := if ofB n = true then Q2s (bsI n) else (0, 0, 0, false, false)
def ofR (n : Int) : List PV := Q7r (ofT n).1 (ofT n).2.1 (ofT n).2.2.1 (ofT n).2.2.2.1 (ofT n).2.2.2.2
theorem Qhi (n : Int) : ofC n = ofR n := by
 unfold ofC ofR ofT
 split <;> rfl
theorem Qgk (n : Int) : Pure Tryz.prog G1 133 [.int .i64 n] (.tuple [.agg (ofR n), .bool (ofB n)]) := by
 rw [← Qhi]; exact Qib n
end
end Go.Av
namespace Go.Av
noncomputable section
open Go.Proofs
set_option maxRecDepth 100000
attribute [local irreducible] Z6 Ze Q2v Q3c Qfz Qfn
def Q6w (k : Int) : List Int := (List.range 17).flatMap fun (w : Nat) => (tabL.filter fun r => r.2.1 == k && r.2.2.1 == (w : Int)).map (·.1)
def Qu (k : Int) : PV := match Q6w k with
 | [] => .nilSlice
 | c :: l => .slice 1 ((c :: l).map fun c => [.int .i64 c])
def Q9l (k : Nat) : Int := (Q2s k).2.1
theorem Qa0 : ∀ k, k < 40 → 1 ≤ Q9l k ∧ Q9l k ≤ 25 := by decide +kernel
theorem Qa1 (k : Int) (h : k < 1 ∨ 25 < k) : Q6w k = [] := by
 unfold Q6w;rw [List.flatMap_eq_nil_iff];intro w _;rw [List.map_eq_nil_iff, List.filter_eq_nil_iff];intro r hr
 have hall : (tabL.all fun r => decide (1 ≤ r.2.1 ∧ r.2.1 ≤ 25)) = true := by decide +kernel
 have := Lp.1 hall r hr;simp only [decide_eq_true_eq] at this;simp only [Lb, beq_iff_eq, not_and];intro h1;omega
theorem Q7h : Pure Tryz.prog G1 175 [.nilSlice, .func (.func 176) [] []] (.tuple []) := Qc Z2 (N := 1000) (d := 40) (by kernel_rfl)
def coT (kind : Int) (i : Nat) : List AV := .p (.int .i64 kind) :: .any :: .any :: .p .nilSlice :: .any :: .any :: .any :: .any :: .any :: .p Qbq :: .p (.int .i64 40) :: .p (.int .i64 i) :: List.replicate 27 .any
def coU (_ : Unit) : List AV := .any :: .any :: .any :: .any :: .any :: .any :: .p .nilSlice :: .any :: .any :: .any :: .any :: .any :: .any :: .any :: .any :: .any :: .any :: .any :: .any :: .any :: .any :: .any :: .any :: .any :: .any :: .any :: .any :: .p (.int .i64 0) :: .p (.int .i64 0) :: List.replicate 10 .any
theorem Qcp (kind : Int) (h : kind < 1 ∨ 25 < kind) : Pure Tryz.prog G1 161 [.int .i64 kind] .nilSlice := by
 refine Q8 Qoa ?_;refine Y1 Q2r .nil ?_;refine Q1v (coT kind) (fun _ => []) (fun i => i ≤ 40) (fun i => 40 - i) 0 (Na _) ⟨⟨rfl, rfl, rfl, rfl, rfl, trivial⟩, rfl, rfl, rfl⟩ (fun _ _ => Lj _) (fun i hi => ?_);refine ifP (fun hc => ?_) (fun hc => ?_)
 ·have hlt : i < 40 := by simp only [Env.c1] at hc; unfold Qi at hc; simp at hc; omega
  refine Qgs (x := Q7a i) (Q1q _ hlt) ?_;refine ifP (fun hk => ?_) (fun hk => ?_)
  ·exfalso;simp only [Env.c1] at hk; unfold Qi at hk
   have hk : Q9l i = kind := by simpa [Q9l] using hk
   have := Qa0 i hlt;omega
  refine ⟨i + 1, by show i + 1 ≤ 40; omega, by show 40 - (i + 1) < 40 - i; omega, ⟨rfl, rfl, rfl, rfl, ?_, trivial⟩, rfl, rfl, rfl⟩;rw [IntWalk.i64_in ((i : Int) + 1) (by omega)]; rfl
 refine Y1 Q7h (.cons (.p _) (.cons (.p _) .nil)) ?_;refine Q1v coU (fun _ => []) (fun _ => True) (fun _ => 0) () trivial ⟨⟨rfl, rfl, rfl, trivial⟩, rfl, rfl, rfl⟩ (fun _ _ => Lj _) (fun i hi => ?_);refine ifF (cF (by decide)) ?_;exact Q1i rfl
end
end Go.Av
namespace Go.Av
noncomputable section
open Go.Proofs
set_option maxRecDepth 1000000
theorem Qg0 : Pure Tryz.prog G1 161 [.int .i64 1] (Qu 1) := Qc Z2 (N := 1000) (d := 40) (by kernel_rfl)
theorem Qfw : Pure Tryz.prog G1 161 [.int .i64 2] (Qu 2) := Qc Z2 (N := 1000) (d := 40) (by kernel_rfl)
theorem Qgi : Pure Tryz.prog G1 161 [.int .i64 3] (Qu 3) := Qc Z2 (N := 1000) (d := 40) (by kernel_rfl)
theorem Qfp : Pure Tryz.prog G1 161 [.int .i64 4] (Qu 4) := Qc Z2 (N := 1000) (d := 40) (by kernel_rfl)
theorem Qgo : Pure Tryz.prog G1 161 [.int .i64 5] (Qu 5) := Qc Z2 (N := 1000) (d := 40) (by kernel_rfl)
theorem Qgm : Pure Tryz.prog G1 161 [.int .i64 6] (Qu 6) := Qc Z2 (N := 1000) (d := 40) (by kernel_rfl)
theorem Qgn : Pure Tryz.prog G1 161 [.int .i64 7] (Qu 7) := Qc Z2 (N := 1000) (d := 40) (by kernel_rfl)
theorem Qgj : Pure Tryz.prog G1 161 [.int .i64 8] (Qu 8) := Qc Z2 (N := 1000) (d := 40) (by kernel_rfl)
theorem Qf8 : Pure Tryz.prog G1 161 [.int .i64 9] (Qu 9) := Qc Z2 (N := 1000) (d := 40) (by kernel_rfl)
theorem Qdj : Pure Tryz.prog G1 161 [.int .i64 10] (Qu 10) := Qc Z2 (N := 1000) (d := 40) (by kernel_rfl)
theorem Qe4 : Pure Tryz.prog G1 161 [.int .i64 11] (Qu 11) := Qc Z2 (N := 1000) (d := 40) (by kernel_rfl)
theorem Qeg : Pure Tryz.prog G1 161 [.int .i64 12] (Qu 12) := Qc Z2 (N := 1000) (d := 40) (by kernel_rfl)
theorem Qdl : Pure Tryz.prog G1 161 [.int .i64 13] (Qu 13) := Qc Z2 (N := 1000) (d := 40) (by kernel_rfl)
theorem Qd7 : Pure Tryz.prog G1 161 [.int .i64 14] (Qu 14) := Qc Z2 (N := 1000) (d := 40) (by kernel_rfl)
theorem Qd8 : Pure Tryz.prog G1 161 [.int .i64 15] (Qu 15) := Qc Z2 (N := 1000) (d := 40) (by kernel_rfl)
theorem Qe3 : Pure Tryz.prog G1 161 [.int .i64 16] (Qu 16) := Qc Z2 (N := 1000) (d := 40) (by kernel_rfl)
theorem Qdu : Pure Tryz.prog G1 161 [.int .i64 17] (Qu 17) := Qc Z2 (N := 1000) (d := 40) (by kernel_rfl)
theorem Qei : Pure Tryz.prog G1 161 [.int .i64 18] (Qu 18) := Qc Z2 (N := 1000) (d := 40) (by kernel_rfl)
theorem Qe9 : Pure Tryz.prog G1 161 [.int .i64 19] (Qu 19) := Qc Z2 (N := 1000) (d := 40) (by kernel_rfl)
theorem Qda : Pure Tryz.prog G1 161 [.int .i64 20] (Qu 20) := Qc Z2 (N := 1000) (d := 40) (by kernel_rfl)
theorem Qek : Pure Tryz.prog G1 161 [.int .i64 21] (Qu 21) := Qc Z2 (N := 1000) (d := 40) (by kernel_rfl)
theorem Qec : Pure Tryz.prog G1 161 [.int .i64 22] (Qu 22) := Qc Z2 (N := 1000) (d := 40) (by kernel_rfl)
theorem Qdp : Pure Tryz.prog G1 161 [.int .i64 23] (Qu 23) := Qc Z2 (N := 1000) (d := 40) (by kernel_rfl)
theorem Qdi : Pure Tryz.prog G1 161 [.int .i64 24] (Qu 24) := Qc Z2 (N := 1000) (d := 40) (by kernel_rfl)
theorem Qdo : Pure Tryz.prog G1 161 [.int .i64 25] (Qu 25) := Qc Z2 (N := 1000) (d := 40) (by kernel_rfl)
theorem Qcq (kind : Int) : Pure Tryz.prog G1 161 [.int .i64 kind] (Qu kind) := by
 by_cases h : kind < 1 ∨ 25 < kind
 ·have := Qcp kind h;rw [Qu, Qa1 kind h]; exact this
 have h1 : 1 ≤ kind := by omega
 have h2 : kind ≤ 25 := by omega
 have h3 : kind = 1 ∨ kind = 2 ∨ kind = 3 ∨ kind = 4 ∨ kind = 5 ∨ kind = 6 ∨ kind = 7 ∨ kind = 8 ∨ kind = 9 ∨ kind = 10 ∨ kind = 11 ∨ kind = 12 ∨ kind = 13 ∨ kind = 14 ∨ kind = 15 ∨ kind = 16 ∨ kind = 17 ∨ kind = 18 ∨ kind = 19 ∨ kind = 20 ∨ kind = 21 ∨ kind = 22 ∨ kind = 23 ∨ kind = 24 ∨ kind = 25 := by omega
 clear h h1 h2
 rcases h3 with rfl | rfl | rfl | rfl | rfl | rfl | rfl | rfl | rfl | rfl | rfl | rfl | rfl | rfl | rfl | rfl | rfl | rfl | rfl | rfl | rfl | rfl | rfl | rfl | rfl
 ·exact Qg0
 ·exact Qfw
 ·exact Qgi
 ·exact Qfp
 ·exact Qgo
 ·exact Qgm
 ·exact Qgn
 ·exact Qgj
 ·exact Qf8
 ·exact Qdj
 ·exact Qe4
 ·exact Qeg
 ·exact Qdl
 ·exact Qd7
 ·exact Qd8
 ·exact Qe3
 ·exact Qdu
 ·exact Qei
 ·exact Qe9
 ·exact Qda
 ·exact Qek
 ·exact Qec
 ·exact Qdp
 ·exact Qdi
 exact Qdo
end
end Go.Av
