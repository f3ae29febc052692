/- The law. Part of a proof of a given statement: for every input the law returns true and the arguments read as before; no condition beyond the given row. -/
import Derived.Test.YtegedmcbfmfjeaaDoorPlain
import Derived.Test.YtegedmcbfmfjeaaDoorLiftF3
namespace Go.Av
noncomputable section
open Go.Proofs
set_option maxRecDepth 100000
end
end Go.Av
namespace Go.Av
noncomputable section
open Go.Proofs
set_option maxRecDepth 100000
end
end Go.Av
namespace Go.Av
noncomputable section
open Go.Proofs
set_option maxRecDepth 100000
end
end Go.Av
namespace Go.Av
noncomputable section
open Go.Proofs
set_option maxRecDepth 100000
open Classical in
open Classical in
open Classical in
end
end Go.Av
namespace Go.Av
noncomputable section
open Go.Proofs
set_option maxRecDepth 100000
end
end Go.Av
namespace Go.Av
noncomputable section
open Go.Proofs
set_option maxRecDepth 100000
end
end Go.Av
namespace Go.Av
noncomputable section
open Go.Proofs
set_option maxRecDepth 100000
end
end Go.Av
namespace Go.Av
noncomputable section
open Go.Proofs
set_option maxRecDepth 100000
def Qfg (code : Int) (v : Q0) (b : List UInt8) : Bool :=
 if (ofS code).Items = false then Q16 code v else if (ofS code).Width = 0 then decide (v.Items.length = 0)
 else decide ((ofS code).Width = 4 ∨ (v.Items.length < 256 ∧ b.length + 1 < 256))
def Qem (code : Int) (v : Q0) (b : List UInt8) : List UInt8 :=
 if (ofS code).Items = false then (Qgn code v).1 else if (ofS code).Sized = false then []
 else Q39 (b.length + (ofS code).Width.toNat) (ofS code).Width.toNat ++ (Q39 v.Items.length (ofS code).Width.toNat ++ b)
def Qgy (c : Int) (l : List (Q0 × List UInt8)) : Bool := l.all fun p => Qfg c p.1 p.2
def Q73 (k : Int) (l : List (Q0 × List UInt8)) : Int := ((Qew k).find? (fun c => Qgy c l)).getD 0
def Qed (c : Int) : UInt8 := UInt8.ofNat c.toNat
def Qgh (n : Int) (l : List (Q0 × List UInt8)) : List UInt8 := Qed (Q73 n l) :: (l.map fun p => Qem (Q73 n l) p.1 p.2).flatten
def Qft (k n : Int) (is : List Q0) (l : List (List UInt8 × List UInt8)) : List UInt8 := if k = 24 then Qgh n (is.zip (l.map (·.1))) else if k = 25 then [] else (l.map (·.2)).flatten
def Qgg (v : Q0) (b : List UInt8) (l : List (List UInt8 × List UInt8)) : List UInt8 := if v.Kind = 25 then 0 :: (l.map (·.2)).flatten else Qed (Q73 v.Kind [(v, b)]) :: Qem (Q73 v.Kind [(v, b)]) v b
mutual
def Q0.enc : Q0 → List UInt8 × List UInt8
 | .mk k n t is => (Qft k n is (Q0.encs is), Qgg ⟨k, n, t, is⟩ (Qft k n is (Q0.encs is)) (Q0.encs is))
def Q0.encs : List Q0 → List (List UInt8 × List UInt8)
 | [] => []
 | v :: l => v.enc :: Q0.encs l
end
end
end Go.Av
namespace Go.Av
noncomputable section
open Go.Proofs
set_option maxRecDepth 100000
mutual
def Q0.wgt : Q0 → Nat
 | .mk _ _ t is => t.length + 30 + Q0.wgts is
def Q0.wgts : List Q0 → Nat
 | [] => 0
 | v :: l => v.wgt + Q0.wgts l
end
theorem Q7a : ∀ (l : List Q0), ∀ x ∈ l, x.wgt ≤ Q0.wgts l
 | v :: l, x, hx => by
  simp only [Q0.wgts]
  rcases List.mem_cons.1 hx with rfl | hx
  ·omega
  ·have := Q7a l x hx; omega
end
end Go.Av
namespace Go.Av
noncomputable section
open Go.Proofs
set_option maxRecDepth 100000
end
end Go.Av
namespace Go.Av
noncomputable section
open Go.Proofs
set_option maxRecDepth 100000
end
end Go.Av
namespace Go.Av
noncomputable section
open Go.Proofs
set_option maxRecDepth 100000
end
end Go.Av
