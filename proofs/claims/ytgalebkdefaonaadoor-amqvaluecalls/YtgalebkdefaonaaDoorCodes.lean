/- The law. Part of a proof of a given statement: for every input the law returns true and the arguments read as before; no condition beyond the given row. -/
import Derived.Test.YtgalebkdefaonaaDoorTab16
namespace Go.Av
noncomputable section
open Go.Proofs
set_option maxRecDepth 100000
attribute [local irreducible] dcallP CallsA LoopA DrawA cmpI
def ofB (n : Int) : Bool := decide (bsI n < 40) && decide (codeAt (bsI n) = n)
def ofC (n : Int) : List PV := if ofB n = true then rowAt (bsI n) else ctorC 0 0 0 false false
theorem of_ctr (n : Int) : Pure Tryd.prog G1 19 [.int .i64 n] (.tuple [.agg (ofC n), .bool (ofB n)]) := by
 refine pure_of_ev k19 ?_
 refine call_pure table_ctr .nil ?_
 refine call_pure (bs_ctr n) (.cons (.p _) (.cons (.p _) (.cons (.p _) .nil))) ?_
 refine ifP (fun h => ?_) (fun h => ?_)
 ·have hb : ofB n = false := by unfold ofB; revert h; cases (decide (bsI n < 40) && decide (codeAt (bsI n) = n)) <;> simp
  refine Frz.tuple' (.cons (.agg' ?_) (.cons (frz_p ?_) .nil))
  ·simp only [ofC, hb, Bool.false_eq_true, if_false, ctorC]
   exact .cons (.p _) (.cons (.p _) (.cons (.p _) (.cons (.p _) (.cons (.p _) .nil))))
  ·rw [hb]
 ·have hb : ofB n = true := by unfold ofB; revert h; cases (decide (bsI n < 40) && decide (codeAt (bsI n) = n)) <;> simp
  have hlt : bsI n < 40 := by simp only [ofB, Bool.and_eq_true, decide_eq_true_eq] at hb; exact hb.1
  refine idxP (x := rowAt (bsI n)) (tabR_get _ hlt) ?_
  refine Frz.tuple' (.cons (.agg' ?_) (.cons (frz_p ?_) .nil))
  ·simp only [ofC, hb, if_true, rowAt, ctorC]
   exact .cons (.p _) (.cons (.p _) (.cons (.p _) (.cons (.p _) (.cons (.p _) .nil))))
  ·rw [hb]
def ofT (n : Int) : Int × Int × Int × Bool × Bool := if ofB n = true then tabAt (bsI n) else (0, 0, 0, false, false)
def ofR (n : Int) : List PV := ctorC (ofT n).1 (ofT n).2.1 (ofT n).2.2.1 (ofT n).2.2.2.1 (ofT n).2.2.2.2
theorem ofR_eq (n : Int) : ofC n = ofR n := by
 unfold ofC ofR ofT
 split <;> rfl
theorem of_ctr2 (n : Int) : Pure Tryd.prog G1 19 [.int .i64 n] (.tuple [.agg (ofR n), .bool (ofB n)]) := by
 rw [← ofR_eq]; exact of_ctr n
end
end Go.Av
namespace Go.Av
noncomputable section
open Go.Proofs
set_option maxRecDepth 100000
attribute [local irreducible] dcallP CallsA LoopA DrawA cmpI
end
end Go.Av
namespace Go.Av
noncomputable section
open Go.Proofs
set_option maxRecDepth 1000000
end
end Go.Av
