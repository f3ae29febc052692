/- Part of the proof of FromsnApart: for every input the law returns true; no condition. -/
import Derived.Test.YtjhombimklaciaaGreatDoorAvMeth
import Derived.Test.YtjhombimklaciaaGreatDoorAvLook
import Derived.Test.YtjhombimklaciaaGreatDoorAvDraws
import Derived.Test.YtjhombimklaciaaGreatDoorAvClosed4
namespace Go.Av
noncomputable section
section
variable {P : Program} {Gl : Nat → Option (List PV)}
@[reducible] def clo (f a : Nat) : AV := .func (.func f) [] [.ptr a 0]
def Qxs (P : Program) (Gl : Nat → Option (List PV)) (f : Nat) (args : List PV) (r : PV) : Prop :=
 ∀ (H : List AObj) (a : Nat), H[a]? = some (.cells [clo f a]) → ∀ vs, FrzL (fun _ => False) H vs args →
  Qm P Gl f (vs ++ [.ptr a 0]) H (fun v H' => v = .p r ∧ H' = H)
end
end
end Go.Av
namespace Go.Av
noncomputable section
section
variable {P : Program} {Gl : Nat → Option (List PV)}
theorem Q4m {f : Nat} {args : List AV} {H : List AObj} {r : AV} {k : AV → List AObj → List Nat → List Nat → Prop} (hargs : refsLt.refsLts H.length args = true) (hr : refsLt H.length r = true)
  (hc : Qm P Gl f args (List.replicate H.length .dead) (fun v _ => v = r)) (hk : k r H [] []) : Xt P Gl f args H k :=
 .inl ⟨[], [], r, fun s h => (by cases h), fun H2 _ => Vu (Qaf hargs hr hc H2) (fun _ _ ⟨e1, e2⟩ => ⟨e1, e2⟩), hk⟩
end
end
end Go.Av
