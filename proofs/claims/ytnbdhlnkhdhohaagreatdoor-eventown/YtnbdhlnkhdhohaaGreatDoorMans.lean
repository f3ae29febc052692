/- Part of the proof of EventOwn: for every input the law returns true; no condition. -/
import Derived.Test.YtnbdhlnkhdhohaaGreatDoorLiftTy
import Derived.Test.YtnbdhlnkhdhohaaGreatDoorChks
import Derived.Test.YtnbdhlnkhdhohaaGreatDoorSeat1
import Derived.Test.YtnbdhlnkhdhohaaGreatDoorAvClosed4
import Derived.KernelRfl
import Derived.Test.YtnbdhlnkhdhohaaGreatDoorCodes
import Derived.Test.YtnbdhlnkhdhohaaGreatDoorLiftG
import Derived.Test.YtnbdhlnkhdhohaaGreatDoorRound
import Derived.Test.YtnbdhlnkhdhohaaGreatDoorAvAbb
namespace Go.Av
noncomputable section
open Go.Proofs
set_option maxRecDepth 1000000
section
end
end
end Go.Av
namespace Go.Av
noncomputable section
open Go.Proofs
theorem Quf {P : Program} {Gl : Nat → Option (List PV)} {f : Nat} {args : List PV} (e : Nat) (h : Gt P Gl f args .nilSlice) : Gt P Gl f args (.slice e []) := by
 refine ⟨h.1, fun bad w cargs h1 h2 h3 h4 => (h.2 bad w cargs h1 h2 h3 h4).mono ?_⟩
 rintro x w' ⟨cr, rfl, q1, q2⟩
 refine ⟨cr, rfl, ?_, q2⟩;cases q1;exact .sliceE e none 0 (fun _ => rfl)
def Q55 (_N : Nat) (kind : Int) : Option (List Int) := some (Qdv kind)
theorem Qb7 {N : Nat} {kind : Int} {r : List Int} (h : Q55 N kind = some r) : Gt Tryz.prog G1 177 [.int .i64 kind] (.slice 1 (Q8 (cI .i64) r)) := by
 have hr := Qb h;subst hr;have hc := Qso kind;unfold Wv at hc
 cases hq : Qdv kind with
 | nil => rw [hq] at hc; exact Quf 1 hc
 | cons c l => rw [hq] at hc; exact hc
def ofS (code : Int) : Q8g := ⟨(ofT code).1, (ofT code).2.1, (ofT code).2.2.1, (ofT code).2.2.2.1, (ofT code).2.2.2.2⟩
def Q3x (_N : Nat) (code : Int) : Option (Q8g × Bool) := some (ofS code, ofB code)
theorem Q5h {N : Nat} {code : Int} {r : Q8g × Bool} (h : Q3x N code = some r) : Gt Tryz.prog G1 145 [.int .i64 code] (.tuple [.agg (Q8g.cells r.1), .bool r.2]) := by
 have hr := Qb h;subst hr;exact Qza code
end
end Go.Av
namespace Go.Av
noncomputable section
open Go.Proofs
set_option maxRecDepth 1000000
set_option maxHeartbeats 4000000
attribute [local irreducible] Vp Xe Q79 Qc9 Qpg Qpp Qgl
def rcodesT : List (Int × List Int) := [(2, [1, 0, 3198228479, 0]), (4, [65537, 0, 42139785, 0]), (5, [65537, 0, 42139785, 0]), (6, [1, 0, 262144, 0]), (7, [1, 0, 262144, 0]), (9, [7, 0, 26852098185, 0]), (11, [131073, 0, 163977, 0]), (14, [17, 0, 34359339663, 0]), (15, [50331649, 0, 0, 0])]
theorem Qvv : Gt Tryz.prog G1 292 [.int .i64 2] (.agg [.int .u64 1, .int .u64 0, .int .u64 3198228479, .int .u64 0]) := Qe Q6y (N := 4000) (d := 60) (by kernel_rfl)
theorem Qwg : Gt Tryz.prog G1 292 [.int .i64 4] (.agg [.int .u64 65537, .int .u64 0, .int .u64 42139785, .int .u64 0]) := Qe Q6y (N := 4000) (d := 60) (by kernel_rfl)
theorem Qw4 : Gt Tryz.prog G1 292 [.int .i64 5] (.agg [.int .u64 65537, .int .u64 0, .int .u64 42139785, .int .u64 0]) := Qe Q6y (N := 4000) (d := 60) (by kernel_rfl)
theorem Qvk : Gt Tryz.prog G1 292 [.int .i64 6] (.agg [.int .u64 1, .int .u64 0, .int .u64 262144, .int .u64 0]) := Qe Q6y (N := 4000) (d := 60) (by kernel_rfl)
theorem Qw9 : Gt Tryz.prog G1 292 [.int .i64 7] (.agg [.int .u64 1, .int .u64 0, .int .u64 262144, .int .u64 0]) := Qe Q6y (N := 4000) (d := 60) (by kernel_rfl)
theorem Qvr : Gt Tryz.prog G1 292 [.int .i64 9] (.agg [.int .u64 7, .int .u64 0, .int .u64 26852098185, .int .u64 0]) := Qe Q6y (N := 4000) (d := 60) (by kernel_rfl)
theorem Qs0 : Gt Tryz.prog G1 292 [.int .i64 11] (.agg [.int .u64 131073, .int .u64 0, .int .u64 163977, .int .u64 0]) := Qe Q6y (N := 4000) (d := 60) (by kernel_rfl)
theorem Qv0 : Gt Tryz.prog G1 292 [.int .i64 14] (.agg [.int .u64 17, .int .u64 0, .int .u64 34359339663, .int .u64 0]) := Qe Q6y (N := 4000) (d := 60) (by kernel_rfl)
theorem Qul : Gt Tryz.prog G1 292 [.int .i64 15] (.agg [.int .u64 50331649, .int .u64 0, .int .u64 0, .int .u64 0]) := Qe Q6y (N := 4000) (d := 60) (by kernel_rfl)
theorem eqX {k c : Int} (h : k ≠ c) : Qrx .eql k c = false := cF (by rw [show Q3 .eql k c = decide (k = c) by unfold Q3; by_cases e : k = c <;> simp [e]]; exact decide_eq_false h)
theorem Qmm {k : Int} (h : k ≠ 2 ∧ k ≠ 4 ∧ k ≠ 5 ∧ k ≠ 6 ∧ k ≠ 7 ∧ k ≠ 9 ∧ k ≠ 11 ∧ k ≠ 14 ∧ k ≠ 15) : Gt Tryz.prog G1 292 [.int .i64 k] (.agg [.int .u64 0, .int .u64 0, .int .u64 0, .int .u64 0]) := by
 refine Q2 Zbg ?_;refine ifF (eqX h.1) ?_;refine ifF (eqX h.2.1) ?_;refine ifF (eqX h.2.2.1) ?_;refine ifF (eqX h.2.2.2.1) ?_;refine ifF (eqX h.2.2.2.2.1) ?_;refine ifF (eqX h.2.2.2.2.2.1) ?_;refine ifF (eqX h.2.2.2.2.2.2.1) ?_;refine ifF (eqX h.2.2.2.2.2.2.2.1) ?_;refine ifF (eqX h.2.2.2.2.2.2.2.2) ?_;exact q4
def Qnv (k : Int) : List Int := ((rcodesT.find? fun q => q.1 == k).map (·.2)).getD [0, 0, 0, 0]
theorem Qkk (k : Int) : ∃ a b c d : Int, Qnv k = [a, b, c, d] ∧ Gt Tryz.prog G1 292 [.int .i64 k] (.agg [.int .u64 a, .int .u64 b, .int .u64 c, .int .u64 d]) := by
 by_cases h2 : k = 2
 ·subst h2; exact ⟨_, _, _, _, rfl, Qvv⟩
 by_cases h4 : k = 4
 ·subst h4; exact ⟨_, _, _, _, rfl, Qwg⟩
 by_cases h5 : k = 5
 ·subst h5; exact ⟨_, _, _, _, rfl, Qw4⟩
 by_cases h6 : k = 6
 ·subst h6; exact ⟨_, _, _, _, rfl, Qvk⟩
 by_cases h7 : k = 7
 ·subst h7; exact ⟨_, _, _, _, rfl, Qw9⟩
 by_cases h9 : k = 9
 ·subst h9; exact ⟨_, _, _, _, rfl, Qvr⟩
 by_cases h11 : k = 11
 ·subst h11; exact ⟨_, _, _, _, rfl, Qs0⟩
 by_cases h14 : k = 14
 ·subst h14; exact ⟨_, _, _, _, rfl, Qv0⟩
 by_cases h15 : k = 15
 ·subst h15; exact ⟨_, _, _, _, rfl, Qul⟩
 refine ⟨0, 0, 0, 0, ?_, Qmm ⟨h2, h4, h5, h6, h7, h9, h11, h14, h15⟩⟩
 have e : (rcodesT.find? fun q => q.1 == k) = none := by
  rw [List.find?_eq_none];intro q hq;simp only [rcodesT, Mk, Bn, or_false] at hq
  rcases hq with rfl | rfl | rfl | rfl | rfl | rfl | rfl | rfl | rfl <;> simp <;> omega
 unfold Qnv;rw [e]; rfl
def Z3l (w : List Int) (code : Int) : Option Bool :=
 cond (Q3 .geq code 0) (cond (Q3 .lss code 256) ((idx w (IntKind.wrap .i64 (code.tdiv 64))).bind fun x => cond (decide (0 ≤ IntKind.wrap .u64 (code.tmod 64))) (some (Q3 .eql (Gi .u64 (Q6l .u64 x (IntKind.wrap .u64 (code.tmod 64))) 1) 1)) none) (some false)) (some false)
theorem Z27 {l : List Int} {i x : Int} (h : idx l i = some x) : 0 ≤ i ∧ i < l.length := by
 cases i with
 | ofNat n =>
  have := (Lb.1 (show l[n]? = some x from h)).1;constructor
  ·exact Int.natCast_nonneg n
  show (n : Int) < _; omega
 | negSucc n => cases h
theorem Z2n {a b c d code : Int} {r : Bool} (h : Z3l [a, b, c, d] code = some r) : Gt Tryz.prog G1 293 [.agg [.int .u64 a, .int .u64 b, .int .u64 c, .int .u64 d], .int .i64 code] (.bool r) := by
 refine Q2 Z82 ?_;unfold Z3l at h;rw [cX] at h;apply iU h <;> intro h
 ·apply iU h <;> intro h
  ·obtain ⟨x, hx, h⟩ := Js h;have hi := Z27 hx;have hi4 : IntKind.wrap .i64 (code.tdiv 64) < 4 := hi.2;generalize hw : IntKind.wrap .i64 (code.tdiv 64) = i at hx hi hi4;refine Q0k (b := decide (0 ≤ IntKind.wrap .i64 (code.tdiv 64)) && decide (IntKind.wrap .i64 (code.tdiv 64) < 4)) (by rw [hw]; simp; omega) ?_;rw [hw]
   have : i = 0 ∨ i = 1 ∨ i = 2 ∨ i = 3 := by omega
   rcases this with rfl | rfl | rfl | rfl
   ·cases hx;refine kU h fun h => ?_;cases h; exact (.p _)
   ·cases hx;refine kU h fun h => ?_;cases h; exact (.p _)
   ·cases hx;refine kU h fun h => ?_;cases h; exact (.p _)
   cases hx;refine kU h fun h => ?_;cases h; exact (.p _)
  cases h; exact (.p _)
 cases h; exact (.p _)
def Z3k (k code : Int) : Option Bool := Z3l (Qnv k) code
theorem Z1t {k code : Int} {r : Bool} (h : Z3k k code = some r) : Gt Tryz.prog G1 242 [.int .i64 k, .int .i64 code] (.bool r) := by
 obtain ⟨a, b, c, d, e, hp⟩ := Qkk k;unfold Z3k at h;rw [e] at h;refine Q2 Zf9 ?_;refine Wz hp p1 ?_;refine Wz (Z2n h) p2 ?_;exact (.p _)
def Ju (_N : Nat) (kind : Int) (code : Int) : Option Bool := Z3k kind code
theorem Q02 {N} {kind code : Int} {r : Bool} (h : Ju N kind code = some r) : Gt Tryz.prog G1 242 [.int .i64 kind, .int .i64 code] (.bool r) := Z1t h
end
end Go.Av
