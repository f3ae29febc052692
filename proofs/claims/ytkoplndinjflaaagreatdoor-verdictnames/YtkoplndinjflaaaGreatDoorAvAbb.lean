/- Part of the proof of VerdictNames: for every input the law returns true; no condition. -/
import Derived.Test.YtkoplndinjflaaaGreatDoorAvGc
import Derived.Test.YtkoplndinjflaaaGreatDoorAvDrawt
import Derived.Test.YtkoplndinjflaaaGreatDoorAvSelf
import Derived.Test.YtkoplndinjflaaaGreatDoorAvTrans2
namespace Go.Av
noncomputable section
section
variable {P : Program} {Gl : Nat → Option (List PV)} {α β R : Type}
section
variable {K : Nat → Prop} {H : List AObj} {a b c d e f : PV}
theorem p1 : FrzL K H [.p a] [a] := .cons (.p _) .nil
theorem p2 : FrzL K H [.p a, .p b] [a, b] := .cons (.p _) p1
theorem p3 : FrzL K H [.p a, .p b, .p c] [a, b, c] := .cons (.p _) p2
theorem p4 : FrzL K H [.p a, .p b, .p c, .p d] [a, b, c, d] := .cons (.p _) p3
theorem q4 : Frz K H (.agg [.p a, .p b, .p c, .p d]) (.agg [a, b, c, d]) := Frz.agg' p4
theorem q2 : Frz K H (.agg [.p a, .p b]) (.agg [a, b]) := Frz.agg' p2
theorem u2 : Frz K H (.tuple [.p a, .p b]) (.tuple [a, b]) := Frz.tuple' p2
end
section
variable {x : Option α} {F : α → Option β} {r : β} {f : Nat} {pargs : List PV} {g : α → PV} {H : List AObj} {args : List AV}
end
section
variable {ρ : Nat → Nat} {K : Nat → Prop} {H : List AObj}
end
abbrev a2 (l : List AV) : List AV := .any :: .any :: l
abbrev a4 (l : List AV) : List AV := .any :: .any :: .any :: .any :: l
abbrev a8 (l : List AV) : List AV := .any :: .any :: .any :: .any :: .any :: .any :: .any :: .any :: l
abbrev a16 (l : List AV) : List AV := a8 (a8 l)
abbrev lb {a b : Nat} (h : Nat.ble a b = true := by rfl) : a ≤ b := Nw h
section
variable {b : Bool} {x y : Option R} {r : R} {X Y : Prop}
end
mutual
theorem Q28 : ∀ v : AV, Yv (fun i => i) v = v
 | .ptr _ _ => rfl
 | .slice _ _ _ _ => rfl
 | .map _ => rfl
 | .agg cs => by simp only [Yv, Wh cs]
 | .tuple cs => by simp only [Yv, Wh cs]
 | .func _ a b => by simp only [Yv, Wh a, Wh b]
 | .iface _ v => by simp only [Yv, Q28 v]
 | .p _ => rfl
 | .gptr _ _ => rfl
 | .rptr _ => rfl
 | .any => rfl
theorem Wh : ∀ l : List AV, Jl (fun i => i) l = l
 | [] => rfl
 | v :: l => by simp only [Jl, Q28 v, Wh l]
end
end
section
variable {P : Program} {Gl : Nat → Option (List PV)} {α β R : Type}
end
end
end Go.Av
