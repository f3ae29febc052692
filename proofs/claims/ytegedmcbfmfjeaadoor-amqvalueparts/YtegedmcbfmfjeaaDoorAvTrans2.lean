/- An abstract machine for the modelled code, and what its runs say of real calls. Part of a proof of a given statement: for every input the law returns true and the arguments read as before; no condition beyond the given row. -/
import Derived.Test.YtegedmcbfmfjeaaDoorAvTrans
import Derived.Test.YtegedmcbfmfjeaaDoorAvDraws
import Derived.Test.YtegedmcbfmfjeaaDoorAvClosed4
namespace Go.Av
noncomputable section
section
variable {P : Program} {Gl : Nat → Option (List PV)}
theorem Qda {f : Nat} {args : List AV} {H : List AObj} {r : AV} {k : AV → List AObj → List Nat → List Nat → Prop} (hargs : refsLt.refsLts H.length args = true) (hr : refsLt H.length r = true)
  (hc : Xb P Gl f args (List.replicate H.length .dead) (fun v _ => v = r)) (hk : k r H [] []) : Wy P Gl f args H k :=
 ⟨[], [], r, fun s h => (by cases h), fun H2 _ => Q28 (Q8r hargs hr hc H2) (fun _ _ ⟨e1, e2⟩ => ⟨e1, e2⟩), hk⟩
theorem Qgy {f : Nat} {args : List AV} {pargs : List PV} {r : PV} {H : List AObj} {k : AV → List AObj → List Nat → List Nat → Prop} (hp : Y9 P Gl f pargs r) (R : List Nat) (hf : FrzL (fun a => a ∈ R) H args pargs)
  (hr : Gx r = true) (hk : k (.p r) H R []) : Wy P Gl f args H k :=
 ⟨R, [], .p r, fun s h => (by cases h), fun H2 hH2 => Q3f hp ⟨hf.1, fun i v x hv hx => Q8b (fun a o ha ho => ⟨trivial, hH2 a ha o ho⟩) (hf.2 i v x hv hx)⟩ hr ⟨rfl, rfl⟩, hk⟩
end
end
end Go.Av
