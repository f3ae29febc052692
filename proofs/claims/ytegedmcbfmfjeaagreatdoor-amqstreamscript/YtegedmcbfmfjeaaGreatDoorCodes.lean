/- The law. Part of a proof of a given statement: for every input the law returns true and the arguments read as before; no condition beyond the given row. -/
import Derived.Test.YtegedmcbfmfjeaaGreatDoorTab16
namespace Go.Av
noncomputable section
open Go.Proofs
set_option maxRecDepth 100000
attribute [local irreducible] V9 Xn Q4u Q4y Qgk Qhv
def ofB (n : Int) : Bool := decide (bsI n < 40) && decide (Uo (bsI n) = n)
def ofC (n : Int) : List PV := if ofB n = true then Qdl (bsI n) else Qd9 0 0 0 false false
theorem Qp0 (n : Int) : Xe Tryz.prog G1 81 [.int .i64 n] (.tuple [.agg (ofC n), .bool (ofB n)]) := by
 refine Qc k81 ?_
 refine U4 Qjk .nil ?_
 refine U4 (Qp2 n) (.cons (.p _) (.cons (.p _) (.cons (.p _) .nil))) ?_
 refine ifP (fun h => ?_) (fun h => ?_)
 ·have hb : ofB n = false := by unfold ofB; revert h; cases (decide (bsI n < 40) && decide (Uo (bsI n) = n)) <;> simp
  refine Frz.tuple' (.cons (.agg' ?_) (.cons (Q7v ?_) .nil))
  ·simp only [ofC, hb, Bool.false_eq_true, if_false, Qd9]
   exact .cons (.p _) (.cons (.p _) (.cons (.p _) (.cons (.p _) (.cons (.p _) .nil))))
  ·rw [hb]
 ·have hb : ofB n = true := by unfold ofB; revert h; cases (decide (bsI n < 40) && decide (Uo (bsI n) = n)) <;> simp
  have hlt : bsI n < 40 := by simp only [ofB, Bool.and_eq_true, decide_eq_true_eq] at hb; exact hb.1
  refine Qon (x := Qdl (bsI n)) (Qaf _ hlt) ?_
  refine Frz.tuple' (.cons (.agg' ?_) (.cons (Q7v ?_) .nil))
  ·simp only [ofC, hb, if_true, Qdl, Qd9]
   exact .cons (.p _) (.cons (.p _) (.cons (.p _) (.cons (.p _) (.cons (.p _) .nil))))
  ·rw [hb]
def ofT (n : Int) : Int × Int × Int × Bool × Bool := if ofB n = true then V1 (bsI n) else (0, 0, 0, false, false)
def ofR (n : Int) : List PV := Qd9 (ofT n).1 (ofT n).2.1 (ofT n).2.2.1 (ofT n).2.2.2.1 (ofT n).2.2.2.2
theorem Qpd (n : Int) : ofC n = ofR n := by
 unfold ofC ofR ofT
 split <;> rfl
theorem Qo6 (n : Int) : Xe Tryz.prog G1 81 [.int .i64 n] (.tuple [.agg (ofR n), .bool (ofB n)]) := by
 rw [← Qpd]; exact Qp0 n
end
end Go.Av
namespace Go.Av
noncomputable section
open Go.Proofs
set_option maxRecDepth 100000
attribute [local irreducible] V9 Xn Q4u Q4y Qgk Qhv
def Qp7 (k : Int) : List Int := (List.range 17).flatMap fun (w : Nat) => (tabL.filter fun r => r.2.1 == k && r.2.2.1 == (w : Int)).map (·.1)
end
end Go.Av
namespace Go.Av
noncomputable section
open Go.Proofs
set_option maxRecDepth 1000000
end
end Go.Av
