/- The law. Part of a proof of a given statement: for every input the law returns true and the arguments read as before; no condition beyond the given row. -/
import Derived.Test.YtegedmcbfmfjeaaGreatDoorTab16
namespace Go.Av
noncomputable section
open Go.Proofs
set_option maxRecDepth 100000
attribute [local irreducible] U2 Wc Q8m Q8n Qkm Qoc
def ofB (n : Int) : Bool := decide (bsI n < 40) && decide (Jm (bsI n) = n)
def ofC (n : Int) : List PV := if ofB n = true then Qgl (bsI n) else Qgn 0 0 0 false false
theorem Qtd (n : Int) : X1 Tryz.prog G1 81 [.int .i64 n] (.tuple [.agg (ofC n), .bool (ofB n)]) := by
 refine Q4 k81 ?_
 refine Uv Ql2 .nil ?_
 refine Uv (Qtu n) (.cons (.p _) (.cons (.p _) (.cons (.p _) .nil))) ?_
 refine ifP (fun h => ?_) (fun h => ?_)
 ·have hb : ofB n = false := by unfold ofB; revert h; cases (decide (bsI n < 40) && decide (Jm (bsI n) = n)) <;> simp
  refine Frz.tuple' (.cons (.agg' ?_) (.cons (Qa1 ?_) .nil))
  ·simp only [ofC, hb, Bool.false_eq_true, if_false, Qgn]
   exact .cons (.p _) (.cons (.p _) (.cons (.p _) (.cons (.p _) (.cons (.p _) .nil))))
  ·rw [hb]
 ·have hb : ofB n = true := by unfold ofB; revert h; cases (decide (bsI n < 40) && decide (Jm (bsI n) = n)) <;> simp
  have hlt : bsI n < 40 := by simp only [ofB, Bool.and_eq_true, decide_eq_true_eq] at hb; exact hb.1
  refine Qtr (x := Qgl (bsI n)) (Qck _ hlt) ?_
  refine Frz.tuple' (.cons (.agg' ?_) (.cons (Qa1 ?_) .nil))
  ·simp only [ofC, hb, if_true, Qgl, Qgn]
   exact .cons (.p _) (.cons (.p _) (.cons (.p _) (.cons (.p _) (.cons (.p _) .nil))))
  ·rw [hb]
def ofT (n : Int) : Int × Int × Int × Bool × Bool := if ofB n = true then Vk (bsI n) else (0, 0, 0, false, false)
def ofR (n : Int) : List PV := Qgn (ofT n).1 (ofT n).2.1 (ofT n).2.2.1 (ofT n).2.2.2.1 (ofT n).2.2.2.2
theorem Qui (n : Int) : ofC n = ofR n := by
 unfold ofC ofR ofT
 split <;> rfl
theorem Qsz (n : Int) : X1 Tryz.prog G1 81 [.int .i64 n] (.tuple [.agg (ofR n), .bool (ofB n)]) := by
 rw [← Qui]; exact Qtd n
end
end Go.Av
namespace Go.Av
noncomputable section
open Go.Proofs
set_option maxRecDepth 100000
attribute [local irreducible] U2 Wc Q8m Q8n Qkm Qoc
def Uu (k : Int) : List Int := (List.range 17).flatMap fun (w : Nat) => (tabL.filter fun r => r.2.1 == k && r.2.2.1 == (w : Int)).map (·.1)
theorem Q7j (k : Int) (h : k < 1 ∨ 25 < k) : Uu k = [] := by
 unfold Uu
 rw [List.flatMap_eq_nil_iff]
 intro w _
 rw [List.map_eq_nil_iff, List.filter_eq_nil_iff]
 intro r hr
 have hall : (tabL.all fun r => decide (1 ≤ r.2.1 ∧ r.2.1 ≤ 25)) = true := by decide +kernel
 have := List.all_eq_true.1 hall r hr
 simp only [decide_eq_true_eq] at this
 simp only [Bool.and_eq_true, beq_iff_eq, not_and]
 intro h1
 omega
end
end Go.Av
namespace Go.Av
noncomputable section
open Go.Proofs
set_option maxRecDepth 1000000
end
end Go.Av
