/- The law. Part of a proof of a given statement: for every input the law returns true and the arguments read as before; no condition beyond the given row. -/
import Derived.Test.YtegedmcbfmfjeaaDoorTab16
namespace Go.Av
noncomputable section
open Go.Proofs
set_option maxRecDepth 100000
attribute [local irreducible] Wy Xb Q5x Q8c Q5
def ofB (n : Int) : Bool := decide (bsI n < 40) && decide (U4 (bsI n) = n)
def ofC (n : Int) : List PV := if ofB n = true then Qdm (bsI n) else Qe3 0 0 0 false false
theorem Qow (n : Int) : Y9 Tryd.prog G1 46 [.int .i64 n] (.tuple [.agg (ofC n), .bool (ofB n)]) := by
 refine Q6 k46 ?_
 refine Vr Qjb .nil ?_
 refine Vr (Qo9 n) (.cons (.p _) (.cons (.p _) (.cons (.p _) .nil))) ?_
 refine ifP (fun h => ?_) (fun h => ?_)
 ·have hb : ofB n = false := by unfold ofB; revert h; cases (decide (bsI n < 40) && decide (U4 (bsI n) = n)) <;> simp
  refine Frz.tuple' (.cons (.agg' ?_) (.cons (Q6q ?_) .nil))
  ·simp only [ofC, hb, Bool.false_eq_true, if_false, Qe3]
   exact .cons (.p _) (.cons (.p _) (.cons (.p _) (.cons (.p _) (.cons (.p _) .nil))))
  ·rw [hb]
 ·have hb : ofB n = true := by unfold ofB; revert h; cases (decide (bsI n < 40) && decide (U4 (bsI n) = n)) <;> simp
  have hlt : bsI n < 40 := by simp only [ofB, Bool.and_eq_true, decide_eq_true_eq] at hb; exact hb.1
  refine Qob (x := Qdm (bsI n)) (Q9q _ hlt) ?_
  refine Frz.tuple' (.cons (.agg' ?_) (.cons (Q6q ?_) .nil))
  ·simp only [ofC, hb, if_true, Qdm, Qe3]
   exact .cons (.p _) (.cons (.p _) (.cons (.p _) (.cons (.p _) (.cons (.p _) .nil))))
  ·rw [hb]
def ofT (n : Int) : Int × Int × Int × Bool × Bool := if ofB n = true then Wm (bsI n) else (0, 0, 0, false, false)
def ofR (n : Int) : List PV := Qe3 (ofT n).1 (ofT n).2.1 (ofT n).2.2.1 (ofT n).2.2.2.1 (ofT n).2.2.2.2
theorem Qp7 (n : Int) : ofC n = ofR n := by
 unfold ofC ofR ofT
 split <;> rfl
theorem Qns (n : Int) : Y9 Tryd.prog G1 46 [.int .i64 n] (.tuple [.agg (ofR n), .bool (ofB n)]) := by
 rw [← Qp7]; exact Qow n
end
end Go.Av
namespace Go.Av
noncomputable section
open Go.Proofs
set_option maxRecDepth 100000
attribute [local irreducible] Wy Xb Q5x Q8c Q5
def Vq (k : Int) : List Int := (List.range 17).flatMap fun (w : Nat) => (tabL.filter fun r => r.2.1 == k && r.2.2.1 == (w : Int)).map (·.1)
theorem Q4r (k : Int) (h : k < 1 ∨ 25 < k) : Vq k = [] := by
 unfold Vq
 rw [List.flatMap_eq_nil_iff]
 intro w _
 rw [List.map_eq_nil_iff, List.filter_eq_nil_iff]
 intro r hr
 have hall : (tabL.all fun r => decide (1 ≤ r.2.1 ∧ r.2.1 ≤ 25)) = true := by decide +kernel
 have := List.all_eq_true.1 hall r hr
 simp only [decide_eq_true_eq] at this
 simp only [Bool.and_eq_true, beq_iff_eq, not_and]
 intro h1
 omega
end
end Go.Av
namespace Go.Av
noncomputable section
open Go.Proofs
set_option maxRecDepth 1000000
end
end Go.Av
