/- Part of the proof of EventCopies: for every input the law returns true; no condition. -/
import Derived.Test.YtnbdhlnkhdhohaaGreatDoorLiftTy
import Derived.Test.YtnbdhlnkhdhohaaGreatDoorChks
import Derived.Test.YtnbdhlnkhdhohaaGreatDoorSeat1
import Derived.Test.YtnbdhlnkhdhohaaGreatDoorAvClosed4
import Derived.KernelRfl
import Derived.Test.YtnbdhlnkhdhohaaGreatDoorCodes
import Derived.Test.YtnbdhlnkhdhohaaGreatDoorLiftG
import Derived.Test.YtnbdhlnkhdhohaaGreatDoorRound
import Derived.Test.YtnbdhlnkhdhohaaGreatDoorAvAbb
namespace Go.Av
noncomputable section
open Go.Proofs
set_option maxRecDepth 1000000
section
end
end
end Go.Av
namespace Go.Av
noncomputable section
open Go.Proofs
theorem Qum {P : Program} {Gl : Nat → Option (List PV)} {f : Nat} {args : List PV} (e : Nat) (h : Gv P Gl f args .nilSlice) : Gv P Gl f args (.slice e []) := by
 refine ⟨h.1, fun bad w cargs h1 h2 h3 h4 => (h.2 bad w cargs h1 h2 h3 h4).mono ?_⟩
 rintro x w' ⟨cr, rfl, q1, q2⟩
 refine ⟨cr, rfl, ?_, q2⟩;cases q1;exact .sliceE e none 0 (fun _ => rfl)
def Q5h (_N : Nat) (kind : Int) : Option (List Int) := some (Qe4 kind)
theorem Qci {N : Nat} {kind : Int} {r : List Int} (h : Q5h N kind = some r) : Gv Tryz.prog G1 177 [.int .i64 kind] (.slice 1 (Q8 (cI .i64) r)) := by
 have hr := Qd h;subst hr;have hc := Qvg kind;unfold Wq at hc
 cases hq : Qe4 kind with
 | nil => rw [hq] at hc; exact Qum 1 hc
 | cons c l => rw [hq] at hc; exact hc
def ofS (code : Int) : Q8m := ⟨(ofT code).1, (ofT code).2.1, (ofT code).2.2.1, (ofT code).2.2.2.1, (ofT code).2.2.2.2⟩
def Q46 (_N : Nat) (code : Int) : Option (Q8m × Bool) := some (ofS code, ofB code)
theorem Q5p {N : Nat} {code : Int} {r : Q8m × Bool} (h : Q46 N code = some r) : Gv Tryz.prog G1 145 [.int .i64 code] (.tuple [.agg (Q8m.cells r.1), .bool r.2]) := by
 have hr := Qd h;subst hr;exact Qzk code
end
end Go.Av
namespace Go.Av
open Go.IntKind (wrap)
noncomputable section
open Go.Proofs
set_option maxRecDepth 1000000
set_option maxHeartbeats 4000000
attribute [local irreducible] Vn Xj Q89 Qcy Qry Qrt Qh8
def rcodesT : List (Int × List Int) := [(2, [1, 0, 3198228479, 0]), (4, [65537, 0, 42139785, 0]), (5, [65537, 0, 42139785, 0]), (6, [1, 0, 262144, 0]), (7, [1, 0, 262144, 0]), (9, [7, 0, 26852098185, 0]), (11, [131073, 0, 163977, 0]), (14, [17, 0, 34359339663, 0]), (15, [50331649, 0, 0, 0])]
theorem Qw0 : Gv Tryz.prog G1 292 [.int .i64 2] (.agg [.int .u64 1, .int .u64 0, .int .u64 3198228479, .int .u64 0]) := Qg Q6w (N := 4000) (d := 60) (by kernel_rfl)
theorem Qya : Gv Tryz.prog G1 292 [.int .i64 4] (.agg [.int .u64 65537, .int .u64 0, .int .u64 42139785, .int .u64 0]) := Qg Q6w (N := 4000) (d := 60) (by kernel_rfl)
theorem Qyd : Gv Tryz.prog G1 292 [.int .i64 5] (.agg [.int .u64 65537, .int .u64 0, .int .u64 42139785, .int .u64 0]) := Qg Q6w (N := 4000) (d := 60) (by kernel_rfl)
theorem Qxg : Gv Tryz.prog G1 292 [.int .i64 6] (.agg [.int .u64 1, .int .u64 0, .int .u64 262144, .int .u64 0]) := Qg Q6w (N := 4000) (d := 60) (by kernel_rfl)
theorem Qxe : Gv Tryz.prog G1 292 [.int .i64 7] (.agg [.int .u64 1, .int .u64 0, .int .u64 262144, .int .u64 0]) := Qg Q6w (N := 4000) (d := 60) (by kernel_rfl)
theorem Qxw : Gv Tryz.prog G1 292 [.int .i64 9] (.agg [.int .u64 7, .int .u64 0, .int .u64 26852098185, .int .u64 0]) := Qg Q6w (N := 4000) (d := 60) (by kernel_rfl)
theorem Qsn : Gv Tryz.prog G1 292 [.int .i64 11] (.agg [.int .u64 131073, .int .u64 0, .int .u64 163977, .int .u64 0]) := Qg Q6w (N := 4000) (d := 60) (by kernel_rfl)
theorem Qsm : Gv Tryz.prog G1 292 [.int .i64 14] (.agg [.int .u64 17, .int .u64 0, .int .u64 34359339663, .int .u64 0]) := Qg Q6w (N := 4000) (d := 60) (by kernel_rfl)
theorem Qsq : Gv Tryz.prog G1 292 [.int .i64 15] (.agg [.int .u64 50331649, .int .u64 0, .int .u64 0, .int .u64 0]) := Qg Q6w (N := 4000) (d := 60) (by kernel_rfl)
theorem eqX {k c : Int} (h : k ≠ c) : Qs2 .eql k c = false := cF (by rw [show Q3 .eql k c = decide (k = c) by unfold Q3; by_cases e : k = c <;> simp [e]]; exact decide_eq_false h)
theorem Qn9 {k : Int} (h : k ≠ 2 ∧ k ≠ 4 ∧ k ≠ 5 ∧ k ≠ 6 ∧ k ≠ 7 ∧ k ≠ 9 ∧ k ≠ 11 ∧ k ≠ 14 ∧ k ≠ 15) : Gv Tryz.prog G1 292 [.int .i64 k] (.agg [.int .u64 0, .int .u64 0, .int .u64 0, .int .u64 0]) := by
 refine Q2 Zay ?_;refine ifF (eqX h.1) ?_;refine ifF (eqX h.2.1) ?_;refine ifF (eqX h.2.2.1) ?_;refine ifF (eqX h.2.2.2.1) ?_;refine ifF (eqX h.2.2.2.2.1) ?_;refine ifF (eqX h.2.2.2.2.2.1) ?_;refine ifF (eqX h.2.2.2.2.2.2.1) ?_;refine ifF (eqX h.2.2.2.2.2.2.2.1) ?_;refine ifF (eqX h.2.2.2.2.2.2.2.2) ?_;exact q4
def Qn3 (k : Int) : List Int := ((rcodesT.find? fun q => q.1 == k).map (·.2)).getD [0, 0, 0, 0]
theorem Qke (k : Int) : ∃ a b c d : Int, Qn3 k = [a, b, c, d] ∧ Gv Tryz.prog G1 292 [.int .i64 k] (.agg [.int .u64 a, .int .u64 b, .int .u64 c, .int .u64 d]) := by
 by_cases h2 : k = 2
 ·subst h2; exact ⟨_, _, _, _, rfl, Qw0⟩
 by_cases h4 : k = 4
 ·subst h4; exact ⟨_, _, _, _, rfl, Qya⟩
 by_cases h5 : k = 5
 ·subst h5; exact ⟨_, _, _, _, rfl, Qyd⟩
 by_cases h6 : k = 6
 ·subst h6; exact ⟨_, _, _, _, rfl, Qxg⟩
 by_cases h7 : k = 7
 ·subst h7; exact ⟨_, _, _, _, rfl, Qxe⟩
 by_cases h9 : k = 9
 ·subst h9; exact ⟨_, _, _, _, rfl, Qxw⟩
 by_cases h11 : k = 11
 ·subst h11; exact ⟨_, _, _, _, rfl, Qsn⟩
 by_cases h14 : k = 14
 ·subst h14; exact ⟨_, _, _, _, rfl, Qsm⟩
 by_cases h15 : k = 15
 ·subst h15; exact ⟨_, _, _, _, rfl, Qsq⟩
 refine ⟨0, 0, 0, 0, ?_, Qn9 ⟨h2, h4, h5, h6, h7, h9, h11, h14, h15⟩⟩
 have e : (rcodesT.find? fun q => q.1 == k) = none := by
  rw [List.find?_eq_none];intro q hq;simp only [rcodesT, Mj, Bl, or_false] at hq
  rcases hq with rfl | rfl | rfl | rfl | rfl | rfl | rfl | rfl | rfl <;> simp <;> omega
 unfold Qn3;rw [e]; rfl
def Z3x (w : List Int) (code : Int) : Option Bool :=
 cond (Q3 .geq code 0) (cond (Q3 .lss code 256) ((idx w (wrap .i64 (code.tdiv 64))).bind fun x => cond (decide (0 ≤ wrap .u64 (code.tmod 64))) (some (Q3 .eql (Jq .u64 (Q4m .u64 x (wrap .u64 (code.tmod 64))) 1) 1)) none) (some false)) (some false)
theorem Z28 {l : List Int} {i x : Int} (h : idx l i = some x) : 0 ≤ i ∧ i < l.length := by
 cases i with
 | ofNat n =>
  have := (Lb.1 (show l[n]? = some x from h)).1;constructor
  ·exact Int.natCast_nonneg n
  show (n : Int) < _; omega
 | negSucc n => cases h
theorem Z2j {a b c d code : Int} {r : Bool} (h : Z3x [a, b, c, d] code = some r) : Gv Tryz.prog G1 293 [.agg [.int .u64 a, .int .u64 b, .int .u64 c, .int .u64 d], .int .i64 code] (.bool r) := by
 refine Q2 Z7z ?_;unfold Z3x at h;rw [cX] at h;apply iU h <;> intro h
 ·apply iU h <;> intro h
  ·obtain ⟨x, hx, h⟩ := U1 h;have hi := Z28 hx;have hi4 : wrap .i64 (code.tdiv 64) < 4 := hi.2;generalize hw : wrap .i64 (code.tdiv 64) = i at hx hi hi4;refine Js (b := decide (0 ≤ wrap .i64 (code.tdiv 64)) && decide (wrap .i64 (code.tdiv 64) < 4)) (by rw [hw]; simp; omega) ?_;rw [hw]
   have : i = 0 ∨ i = 1 ∨ i = 2 ∨ i = 3 := by omega
   rcases this with rfl | rfl | rfl | rfl
   ·cases hx;refine kU h fun h => ?_;cases h; exact (.p _)
   ·cases hx;refine kU h fun h => ?_;cases h; exact (.p _)
   ·cases hx;refine kU h fun h => ?_;cases h; exact (.p _)
   cases hx;refine kU h fun h => ?_;cases h; exact (.p _)
  cases h; exact (.p _)
 cases h; exact (.p _)
def Z3p (k code : Int) : Option Bool := Z3x (Qn3 k) code
theorem Z1y {k code : Int} {r : Bool} (h : Z3p k code = some r) : Gv Tryz.prog G1 242 [.int .i64 k, .int .i64 code] (.bool r) := by
 obtain ⟨a, b, c, d, e, hp⟩ := Qke k;unfold Z3p at h;rw [e] at h;refine Q2 Z5d ?_;refine Wu hp p1 ?_;refine Wu (Z2j h) p2 ?_;exact (.p _)
def G7 (_N : Nat) (kind : Int) (code : Int) : Option Bool := Z3p kind code
theorem Q0o {N} {kind code : Int} {r : Bool} (h : G7 N kind code = some r) : Gv Tryz.prog G1 242 [.int .i64 kind, .int .i64 code] (.bool r) := Z1y h
end
end Go.Av
