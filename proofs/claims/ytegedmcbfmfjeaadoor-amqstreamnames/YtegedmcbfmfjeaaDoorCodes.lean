/- The law. Part of a proof of a given statement: for every input the law returns true and the arguments read as before; no condition beyond the given row. -/
import Derived.Test.YtegedmcbfmfjeaaDoorTab16
namespace Go.Av
noncomputable section
open Go.Proofs
set_option maxRecDepth 100000
attribute [local irreducible] Y9 Zl Q0t Q0p Q90 Qb0
def ofB (n : Int) : Bool := decide (bsI n < 40) && decide (W7 (bsI n) = n)
def ofC (n : Int) : List PV := if ofB n = true then Q69 (bsI n) else Q6l 0 0 0 false false
theorem Qe8 (n : Int) : Yr Tryd.prog G1 46 [.int .i64 n] (.tuple [.agg (ofC n), .bool (ofB n)]) := by
 refine Qe k46 ?_
 refine Yt Qa3 .nil ?_
 refine Yt (Qey n) (.cons (.p _) (.cons (.p _) (.cons (.p _) .nil))) ?_
 refine ifP (fun h => ?_) (fun h => ?_)
 ·have hb : ofB n = false := by unfold ofB; revert h; cases (decide (bsI n < 40) && decide (W7 (bsI n) = n)) <;> simp
  refine Frz.tuple' (.cons (.agg' ?_) (.cons (Q1u ?_) .nil))
  ·simp only [ofC, hb, Bool.false_eq_true, if_false, Q6l]
   exact .cons (.p _) (.cons (.p _) (.cons (.p _) (.cons (.p _) (.cons (.p _) .nil))))
  ·rw [hb]
 ·have hb : ofB n = true := by unfold ofB; revert h; cases (decide (bsI n < 40) && decide (W7 (bsI n) = n)) <;> simp
  have hlt : bsI n < 40 := by simp only [ofB, Bool.and_eq_true, decide_eq_true_eq] at hb; exact hb.1
  refine Qe7 (x := Q69 (bsI n)) (Q44 _ hlt) ?_
  refine Frz.tuple' (.cons (.agg' ?_) (.cons (Q1u ?_) .nil))
  ·simp only [ofC, hb, if_true, Q69, Q6l]
   exact .cons (.p _) (.cons (.p _) (.cons (.p _) (.cons (.p _) (.cons (.p _) .nil))))
  ·rw [hb]
def ofT (n : Int) : Int × Int × Int × Bool × Bool := if ofB n = true then Xg (bsI n) else (0, 0, 0, false, false)
def ofR (n : Int) : List PV := Q6l (ofT n).1 (ofT n).2.1 (ofT n).2.2.1 (ofT n).2.2.2.1 (ofT n).2.2.2.2
theorem Qdx (n : Int) : ofC n = ofR n := by
 unfold ofC ofR ofT
 split <;> rfl
theorem Qd2 (n : Int) : Yr Tryd.prog G1 46 [.int .i64 n] (.tuple [.agg (ofR n), .bool (ofB n)]) := by
 rw [← Qdx]; exact Qe8 n
end
end Go.Av
namespace Go.Av
noncomputable section
open Go.Proofs
set_option maxRecDepth 100000
attribute [local irreducible] Y9 Zl Q0t Q0p Q90 Qb0
def Qew (k : Int) : List Int := (List.range 17).flatMap fun (w : Nat) => (tabL.filter fun r => r.2.1 == k && r.2.2.1 == (w : Int)).map (·.1)
end
end Go.Av
namespace Go.Av
noncomputable section
open Go.Proofs
set_option maxRecDepth 1000000
end
end Go.Av
