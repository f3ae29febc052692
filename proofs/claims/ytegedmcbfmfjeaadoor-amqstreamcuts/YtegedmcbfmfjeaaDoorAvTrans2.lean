/- An abstract machine for the modelled code, and what its runs say of real calls. Part of a proof of a given statement: for every input the law returns true and the arguments read as before; no condition beyond the given row. -/
import Derived.Test.YtegedmcbfmfjeaaDoorAvTrans
import Derived.Test.YtegedmcbfmfjeaaDoorAvDraws
import Derived.Test.YtegedmcbfmfjeaaDoorAvClosed4
namespace Go.Av
noncomputable section
section
variable {P : Program} {Gl : Nat → Option (List PV)}
theorem Q0f {f : Nat} {args : List AV} {H : List AObj} {r : AV} {k : AV → List AObj → List Nat → List Nat → Prop} (hargs : refsLt.refsLts H.length args = true) (hr : refsLt H.length r = true)
  (hc : Y3 P Gl f args (List.replicate H.length .dead) (fun v _ => v = r)) (hk : k r H [] []) : Xb P Gl f args H k :=
 ⟨[], [], r, fun s h => (by cases h), fun H2 _ => Q00 (Q5t hargs hr hc H2) (fun _ _ ⟨e1, e2⟩ => ⟨e1, e2⟩), hk⟩
end
end
end Go.Av
