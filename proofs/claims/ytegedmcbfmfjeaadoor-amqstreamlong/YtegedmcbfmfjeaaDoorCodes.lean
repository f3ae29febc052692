/- The law. Part of a proof of a given statement: for every input the law returns true and the arguments read as before; no condition beyond the given row. -/
import Derived.Test.YtegedmcbfmfjeaaDoorTab16
namespace Go.Av
noncomputable section
open Go.Proofs
set_option maxRecDepth 100000
attribute [local irreducible] X4 Y4 Q2l Q2j Qcm Qff
def ofB (n : Int) : Bool := decide (bsI n < 40) && decide (Ww (bsI n) = n)
def ofC (n : Int) : List PV := if ofB n = true then Q9h (bsI n) else Qa1 0 0 0 false false
theorem Qju (n : Int) : Xw Tryd.prog G1 46 [.int .i64 n] (.tuple [.agg (ofC n), .bool (ofB n)]) := by
 refine Qq k46 ?_
 refine Xr Qed .nil ?_
 refine Xr (Qjh n) (.cons (.p _) (.cons (.p _) (.cons (.p _) .nil))) ?_
 refine ifP (fun h => ?_) (fun h => ?_)
 ·have hb : ofB n = false := by unfold ofB; revert h; cases (decide (bsI n < 40) && decide (Ww (bsI n) = n)) <;> simp
  refine Frz.tuple' (.cons (.agg' ?_) (.cons (Q4b ?_) .nil))
  ·simp only [ofC, hb, Bool.false_eq_true, if_false, Qa1]
   exact .cons (.p _) (.cons (.p _) (.cons (.p _) (.cons (.p _) (.cons (.p _) .nil))))
  ·rw [hb]
 ·have hb : ofB n = true := by unfold ofB; revert h; cases (decide (bsI n < 40) && decide (Ww (bsI n) = n)) <;> simp
  have hlt : bsI n < 40 := by simp only [ofB, Bool.and_eq_true, decide_eq_true_eq] at hb; exact hb.1
  refine Qja (x := Q9h (bsI n)) (Q6x _ hlt) ?_
  refine Frz.tuple' (.cons (.agg' ?_) (.cons (Q4b ?_) .nil))
  ·simp only [ofC, hb, if_true, Q9h, Qa1]
   exact .cons (.p _) (.cons (.p _) (.cons (.p _) (.cons (.p _) (.cons (.p _) .nil))))
  ·rw [hb]
def ofT (n : Int) : Int × Int × Int × Bool × Bool := if ofB n = true then X3 (bsI n) else (0, 0, 0, false, false)
def ofR (n : Int) : List PV := Qa1 (ofT n).1 (ofT n).2.1 (ofT n).2.2.1 (ofT n).2.2.2.1 (ofT n).2.2.2.2
theorem Qje (n : Int) : ofC n = ofR n := by
 unfold ofC ofR ofT
 split <;> rfl
theorem Qi8 (n : Int) : Xw Tryd.prog G1 46 [.int .i64 n] (.tuple [.agg (ofR n), .bool (ofB n)]) := by
 rw [← Qje]; exact Qju n
end
end Go.Av
namespace Go.Av
noncomputable section
open Go.Proofs
set_option maxRecDepth 100000
attribute [local irreducible] X4 Y4 Q2l Q2j Qcm Qff
def Qjo (k : Int) : List Int := (List.range 17).flatMap fun (w : Nat) => (tabL.filter fun r => r.2.1 == k && r.2.2.1 == (w : Int)).map (·.1)
end
end Go.Av
namespace Go.Av
noncomputable section
open Go.Proofs
set_option maxRecDepth 1000000
end
end Go.Av
