/- Part of the proof of VerdictNames: for every input the law returns true; no condition. -/
import Derived.Test.YtkoplndinjflaaaGreatDoorAvTac
namespace Go.Av
noncomputable section
section
variable {P : Program} {Gl : Nat → Option (List PV)}
def Qbf {T : Type} (c : T → List PV) (l : List T) : List (List PV) := l.map c
@[reducible] def cI (k : IntKind) (n : Int) : List PV := [.int k n]
@[reducible] def cU8 (b : UInt8) : List PV := [.int .u8 (b.toNat : Int)]
@[reducible] def cB (b : Bool) : List PV := [.bool b]
@[reducible] def cS (b : List UInt8) : List PV := [.str b]
@[reducible] def cL {T : Type} (e : Nat) (c : T → List PV) (l : List T) : List PV := [.slice e (Qbf c l)]
theorem wN : Q8d [] [] := trivial
end
end
end Go.Av
