/- Part of the proof of EventOwn: for every input the law returns true; no condition. -/
import Derived.Test.YtnbdhlnkhdhohaaGreatDoorC16of
namespace Go.Av
noncomputable section
open Go.Proofs
set_option maxRecDepth 100000
attribute [local irreducible] Vp Xe Q79 Qc9 Qpg Qpp
def ofB (n : Int) : Bool := decide (bsI n < 40) && decide (Q46 (bsI n) = n)
def ofC (n : Int) : List PV := if ofB n = true then Qm0 (bsI n) else Qnl 0 0 0 false false
theorem Z20 (n : Int) : Gt Tryz.prog G1 145 [.int .i64 n] (.tuple [.agg (ofC n), .bool (ofB n)]) := by
 refine Q2 Z7y ?_;refine Wz Qf6 .nil ?_;refine Wz (Z2b n) (.cons (.p _) (.cons (.p _) (.cons (.p _) .nil))) ?_;refine ifP (fun h => ?_) (fun h => ?_)
 ·have hb : ofB n = false := by unfold ofB; revert h; cases (decide (bsI n < 40) && decide (Q46 (bsI n) = n)) <;> simp
  refine Frz.tuple' (.cons (.agg' ?_) (.cons (Qe5 ?_) .nil))
  ·simp only [ofC, hb, Lj, if_false, Qnl];exact .cons (.p _) (.cons (.p _) (.cons (.p _) (.cons (.p _) (.cons (.p _) .nil))))
  rw [hb]
 have hb : ofB n = true := by unfold ofB; revert h; cases (decide (bsI n < 40) && decide (Q46 (bsI n) = n)) <;> simp
 have hlt : bsI n < 40 := by simp only [ofB, La, decide_eq_true_eq] at hb; exact hb.1
 refine Z19 (x := Qm0 (bsI n)) (Qel _ hlt) ?_;refine Frz.tuple' (.cons (.agg' ?_) (.cons (Qe5 ?_) .nil))
 ·simp only [ofC, hb, if_true, Qm0, Qnl];exact .cons (.p _) (.cons (.p _) (.cons (.p _) (.cons (.p _) (.cons (.p _) .nil))))
 rw [hb]
def ofT (n : Int) : Int × Int × Int × Bool × Bool := if ofB n = true then Q1i (bsI n) else (0, 0, 0, false, false)
def ofR (n : Int) : List PV := Qnl (ofT n).1 (ofT n).2.1 (ofT n).2.2.1 (ofT n).2.2.2.1 (ofT n).2.2.2.2
theorem Z1r (n : Int) : ofC n = ofR n := by
 unfold ofC ofR ofT
 split <;> rfl
theorem Qza (n : Int) : Gt Tryz.prog G1 145 [.int .i64 n] (.tuple [.agg (ofR n), .bool (ofB n)]) := by
 rw [← Z1r]; exact Z20 n
end
end Go.Av
namespace Go.Av
noncomputable section
open Go.Proofs
set_option maxRecDepth 100000
attribute [local irreducible] Vp Xe Q79 Qc9 Qpg Qpp
def Qdv (k : Int) : List Int := (List.range 17).flatMap fun (w : Nat) => (tabL.filter fun r => r.2.1 == k && r.2.2.1 == (w : Int)).map (·.1)
def Wv (k : Int) : PV := match Qdv k with
 | [] => .nilSlice
 | c :: l => .slice 1 ((c :: l).map fun c => [.int .i64 c])
def Qph (k : Nat) : Int := (Q1i k).2.1
theorem Qr4 : ∀ k, k < 40 → 1 ≤ Qph k ∧ Qph k ≤ 25 := by decide +kernel
theorem Qhb (k : Int) (h : k < 1 ∨ 25 < k) : Qdv k = [] := by
 unfold Qdv;rw [List.flatMap_eq_nil_iff];intro w _;rw [List.map_eq_nil_iff, List.filter_eq_nil_iff];intro r hr
 have hall : (tabL.all fun r => decide (1 ≤ r.2.1 ∧ r.2.1 ≤ 25)) = true := by decide +kernel
 have := Lw.1 hall r hr;simp only [decide_eq_true_eq] at this;simp only [La, beq_iff_eq, not_and];intro h1;omega
theorem Qnr : Gt Tryz.prog G1 227 [.nilSlice, .func (.func 228) [] []] (.tuple []) := Qe Vo (N := 1000) (d := 40) (by kernel_rfl)
def coT (kind : Int) (i : Nat) : List AV := .p (.int .i64 kind) :: .any :: .any :: .p .nilSlice :: .any :: .any :: .any :: .any :: .any :: .p Qsv :: .p (.int .i64 40) :: .p (.int .i64 i) :: List.replicate 27 .any
def coU (_ : Unit) : List AV := .any :: .any :: .any :: .any :: .any :: .any :: .p .nilSlice :: .any :: .any :: .any :: .any :: .any :: .any :: .any :: .any :: .any :: .any :: .any :: .any :: .any :: .any :: .any :: .any :: .any :: .any :: .any :: .any :: .p (.int .i64 0) :: .p (.int .i64 0) :: List.replicate 10 .any
theorem Qux (kind : Int) (h : kind < 1 ∨ 25 < kind) : Gt Tryz.prog G1 177 [.int .i64 kind] .nilSlice := by
 refine Q2 Zci ?_;refine Wz Qf6 .nil ?_;refine Qg3 (coT kind) (fun _ => []) (fun i => i ≤ 40) (fun i => 40 - i) 0 (Mo _) ⟨⟨rfl, rfl, rfl, rfl, rfl, trivial⟩, rfl, rfl, rfl⟩ (fun _ _ => Ln _) (fun i hi => ?_);refine ifP (fun hc => ?_) (fun hc => ?_)
 ·have hlt : i < 40 := by simp only [Env.c1] at hc; unfold Q3 at hc; simp at hc; omega
  refine Z19 (x := Qm0 i) (Qel _ hlt) ?_;refine ifP (fun hk => ?_) (fun hk => ?_)
  ·exfalso;simp only [Env.c1] at hk; unfold Q3 at hk
   have hk : Qph i = kind := by simpa [Qph] using hk
   have := Qr4 i hlt;omega
  refine ⟨i + 1, by show i + 1 ≤ 40; omega, by show 40 - (i + 1) < 40 - i; omega, ⟨rfl, rfl, rfl, rfl, ?_, trivial⟩, rfl, rfl, rfl⟩;rw [IntWalk.i64_in ((i : Int) + 1) (by omega)]; rfl
 refine Wz Qnr (.cons (.p _) (.cons (.p _) .nil)) ?_;refine Qg3 coU (fun _ => []) (fun _ => True) (fun _ => 0) () trivial ⟨⟨rfl, rfl, rfl, trivial⟩, rfl, rfl, rfl⟩ (fun _ _ => Ln _) (fun i hi => ?_);refine ifF (cF (by decide)) ?_;exact Qe5 rfl
end
end Go.Av
namespace Go.Av
noncomputable section
open Go.Proofs
set_option maxRecDepth 1000000
theorem Qze : Gt Tryz.prog G1 177 [.int .i64 1] (Wv 1) := Qe Vo (N := 1000) (d := 40) (by kernel_rfl)
theorem Z03 : Gt Tryz.prog G1 177 [.int .i64 2] (Wv 2) := Qe Vo (N := 1000) (d := 40) (by kernel_rfl)
theorem Z0x : Gt Tryz.prog G1 177 [.int .i64 3] (Wv 3) := Qe Vo (N := 1000) (d := 40) (by kernel_rfl)
theorem Z05 : Gt Tryz.prog G1 177 [.int .i64 4] (Wv 4) := Qe Vo (N := 1000) (d := 40) (by kernel_rfl)
theorem Z0c : Gt Tryz.prog G1 177 [.int .i64 5] (Wv 5) := Qe Vo (N := 1000) (d := 40) (by kernel_rfl)
theorem Z08 : Gt Tryz.prog G1 177 [.int .i64 6] (Wv 6) := Qe Vo (N := 1000) (d := 40) (by kernel_rfl)
theorem Z10 : Gt Tryz.prog G1 177 [.int .i64 7] (Wv 7) := Qe Vo (N := 1000) (d := 40) (by kernel_rfl)
theorem Z02 : Gt Tryz.prog G1 177 [.int .i64 8] (Wv 8) := Qe Vo (N := 1000) (d := 40) (by kernel_rfl)
theorem Qzm : Gt Tryz.prog G1 177 [.int .i64 9] (Wv 9) := Qe Vo (N := 1000) (d := 40) (by kernel_rfl)
theorem Qwh : Gt Tryz.prog G1 177 [.int .i64 10] (Wv 10) := Qe Vo (N := 1000) (d := 40) (by kernel_rfl)
theorem Qwd : Gt Tryz.prog G1 177 [.int .i64 11] (Wv 11) := Qe Vo (N := 1000) (d := 40) (by kernel_rfl)
theorem Qws : Gt Tryz.prog G1 177 [.int .i64 12] (Wv 12) := Qe Vo (N := 1000) (d := 40) (by kernel_rfl)
theorem Qwj : Gt Tryz.prog G1 177 [.int .i64 13] (Wv 13) := Qe Vo (N := 1000) (d := 40) (by kernel_rfl)
theorem Qw0 : Gt Tryz.prog G1 177 [.int .i64 14] (Wv 14) := Qe Vo (N := 1000) (d := 40) (by kernel_rfl)
theorem Qxn : Gt Tryz.prog G1 177 [.int .i64 15] (Wv 15) := Qe Vo (N := 1000) (d := 40) (by kernel_rfl)
theorem Qxj : Gt Tryz.prog G1 177 [.int .i64 16] (Wv 16) := Qe Vo (N := 1000) (d := 40) (by kernel_rfl)
theorem Qvg : Gt Tryz.prog G1 177 [.int .i64 17] (Wv 17) := Qe Vo (N := 1000) (d := 40) (by kernel_rfl)
theorem Qwe : Gt Tryz.prog G1 177 [.int .i64 18] (Wv 18) := Qe Vo (N := 1000) (d := 40) (by kernel_rfl)
theorem Qx2 : Gt Tryz.prog G1 177 [.int .i64 19] (Wv 19) := Qe Vo (N := 1000) (d := 40) (by kernel_rfl)
theorem Qwt : Gt Tryz.prog G1 177 [.int .i64 20] (Wv 20) := Qe Vo (N := 1000) (d := 40) (by kernel_rfl)
theorem Qxx : Gt Tryz.prog G1 177 [.int .i64 21] (Wv 21) := Qe Vo (N := 1000) (d := 40) (by kernel_rfl)
theorem Qx7 : Gt Tryz.prog G1 177 [.int .i64 22] (Wv 22) := Qe Vo (N := 1000) (d := 40) (by kernel_rfl)
theorem Qvd : Gt Tryz.prog G1 177 [.int .i64 23] (Wv 23) := Qe Vo (N := 1000) (d := 40) (by kernel_rfl)
theorem Qw8 : Gt Tryz.prog G1 177 [.int .i64 24] (Wv 24) := Qe Vo (N := 1000) (d := 40) (by kernel_rfl)
theorem Qxy : Gt Tryz.prog G1 177 [.int .i64 25] (Wv 25) := Qe Vo (N := 1000) (d := 40) (by kernel_rfl)
theorem Qso (kind : Int) : Gt Tryz.prog G1 177 [.int .i64 kind] (Wv kind) := by
 by_cases h : kind < 1 ∨ 25 < kind
 ·have := Qux kind h;rw [Wv, Qhb kind h]; exact this
 have h1 : 1 ≤ kind := by omega
 have h2 : kind ≤ 25 := by omega
 have h3 : kind = 1 ∨ kind = 2 ∨ kind = 3 ∨ kind = 4 ∨ kind = 5 ∨ kind = 6 ∨ kind = 7 ∨ kind = 8 ∨ kind = 9 ∨ kind = 10 ∨ kind = 11 ∨ kind = 12 ∨ kind = 13 ∨ kind = 14 ∨ kind = 15 ∨ kind = 16 ∨ kind = 17 ∨ kind = 18 ∨ kind = 19 ∨ kind = 20 ∨ kind = 21 ∨ kind = 22 ∨ kind = 23 ∨ kind = 24 ∨ kind = 25 := by omega
 clear h h1 h2
 rcases h3 with rfl | rfl | rfl | rfl | rfl | rfl | rfl | rfl | rfl | rfl | rfl | rfl | rfl | rfl | rfl | rfl | rfl | rfl | rfl | rfl | rfl | rfl | rfl | rfl | rfl
 ·exact Qze
 ·exact Z03
 ·exact Z0x
 ·exact Z05
 ·exact Z0c
 ·exact Z08
 ·exact Z10
 ·exact Z02
 ·exact Qzm
 ·exact Qwh
 ·exact Qwd
 ·exact Qws
 ·exact Qwj
 ·exact Qw0
 ·exact Qxn
 ·exact Qxj
 ·exact Qvg
 ·exact Qwe
 ·exact Qx2
 ·exact Qwt
 ·exact Qxx
 ·exact Qx7
 ·exact Qvd
 ·exact Qw8
 exact Qxy
end
end Go.Av
