/- The law. Part of a proof of a given statement: for every input the law returns true and the arguments read as before; no condition beyond the given row. -/
import Derived.Test.YtegedmcbfmfjeaaDoorPlainb
import Derived.Test.YtegedmcbfmfjeaaDoorOks
import Derived.Test.YtegedmcbfmfjeaaDoorLiftF3
namespace Go.Av
noncomputable section
open Go.Proofs
set_option maxRecDepth 100000
end
end Go.Av
namespace Go.Av
noncomputable section
open Go.Proofs
set_option maxRecDepth 100000
def Qgo (s : List UInt8) : List Int := s.map fun b => (b.toNat : Int)
end
end Go.Av
namespace Go.Av
noncomputable section
open Go.Proofs
set_option maxRecDepth 100000
end
end Go.Av
namespace Go.Av
noncomputable section
open Go.Proofs
set_option maxRecDepth 100000
end
end Go.Av
namespace Go.Av
noncomputable section
open Go.Proofs
set_option maxRecDepth 100000
end
end Go.Av
namespace Go.Av
noncomputable section
open Go.Proofs
set_option maxRecDepth 100000
end
end Go.Av
namespace Go.Av
noncomputable section
open Go.Proofs
set_option maxRecDepth 100000
def Qeo (l : Zf) : Bool := decide (16 ≤ l.MaxPacket ∧ l.MaxPacket ≤ 1048576 ∧ 0 ≤ l.MaxDepth ∧ l.MaxDepth ≤ 32)
structure FB (f : Q8) : Prop where
 fine : ∀ x ∈ f.Values, Fine x
 sz : Q0.szs f.Values < 160000000
 wgt : Q0.wgts f.Values < 4000000000
theorem FB.one {f : Q8} (h : FB f) : ∀ x ∈ f.Values, Fine x ∧ x.sz < 160000000 ∧ x.wgt < 4000000000 := fun x hx => by
 have h1 := Q0.szs_mem _ x hx
 have h2 := Q7a _ x hx
 have h3 := h.sz
 have h4 := h.wgt
 exact ⟨h.fine x hx, by omega, by omega⟩
theorem FB.len {f : Q8} (h : FB f) : f.Values.length < 160000000 := by
 have h1 := Q0.szs_len f.Values
 have h2 := h.sz
 omega
end
end Go.Av
namespace Go.Av
noncomputable section
open Go.Proofs
set_option maxRecDepth 100000
theorem Q8.ext' {a b : Q8} (h1 : a.Type' = b.Type') (h2 : a.Channel = b.Channel) (h3 : a.Ext = b.Ext) (h4 : a.Values = b.Values) : a = b := by cases a; cases b; simp_all
noncomputable instance : DecidableEq Q8 := fun a b => decidable_of_iff (a.Type' = b.Type' ∧ a.Channel = b.Channel ∧ a.Ext = b.Ext ∧ a.Values = b.Values) ⟨fun h => Q8.ext' h.1 h.2.1 h.2.2.1 h.2.2.2, fun h => by rw [h]; exact ⟨rfl, rfl, rfl, rfl⟩⟩
end
end Go.Av
namespace Go.Av
noncomputable section
open Go.Proofs
set_option maxRecDepth 100000
def Qdj : Q8 := ⟨0, 0, [], []⟩
def Qdl (s : List UInt8) (l : Zf) : Int × Int :=
 if Qeo l = false then (0, 2) else if s.length < 8 then (0, 3) else if l.MaxPacket < (Jg (s.take 4) : Int) then (0, 4)
 else if Jg (s.take 4) < 8 ∨ (s.getD 4 0).toNat < 2 ∨ Jg (s.take 4) < 4 * (s.getD 4 0).toNat then (0, 5)
 else if 1 < (s.getD 5 0).toNat then (0, 8) else ((Jg (s.take 4) : Int), 0)
def Qci (rd : List UInt8 → Rd) : Nat → List UInt8 → List Q0 → List Q0 × Int
 | 0, _, _ => ([], 0)
 | k + 1, s, acc => if s = [] then (acc, 0) else if acc.length = 1000 then ([], 4) else if (rd s).2.2 = 3 then ([], 5) else if (rd s).2.2 ≠ 0 then ([], (rd s).2.2) else Qci rd k (s.drop (rd s).2.1.toNat) (acc ++ [(rd s).1])
def Qge (q : List Q0 × Int) (r : List Q0 → Q8 × Int × Int) : Q8 × Int × Int := if q.2 ≠ 0 then (Qdj, 0, q.2) else r q.1
def Qer (s : List UInt8) (n : Nat) : List UInt8 := (s.take n).drop (4 * (s.getD 4 0).toNat)
noncomputable def Qe0 (s : List UInt8) (n : Nat) (m : Nat) : Q8 × Int × Int :=
 Qge (Qci (Q9w (Qcy m)) ((Qer s n).length + 1) (Qer s n) []) fun vs => (⟨((s.getD 5 0).toNat : Int), (Jg ((s.take 8).drop 6) : Int), (s.take (4 * (s.getD 4 0).toNat)).drop 8, vs⟩, (n : Int), 0)
noncomputable def Qfq (s : List UInt8) (l : Zf) : Q8 × Int × Int :=
 if (Qdl s l).2 ≠ 0 then (Qdj, 0, (Qdl s l).2) else if s.length < Jg (s.take 4) then (Qdj, 0, 3) else Qe0 s (Jg (s.take 4)) l.MaxDepth.toNat
end
end Go.Av
namespace Go.Av
noncomputable section
open Go.Proofs
set_option maxRecDepth 100000
end
end Go.Av
namespace Go.Av
noncomputable section
open Go.Proofs
set_option maxRecDepth 100000
end
end Go.Av
namespace Go.Av
noncomputable section
open Go.Proofs
set_option maxRecDepth 100000
end
end Go.Av
namespace Go.Av
noncomputable section
open Go.Proofs
set_option maxRecDepth 100000
end
end Go.Av
namespace Go.Av
noncomputable section
open Go.Proofs
set_option maxRecDepth 100000
abbrev Qgl := Q4
def Qf8 (l : Zf) (s : List UInt8) (need : Int) (q : Nat) : Prop := q = U5 ∨ q = U8 ∧ Qdl s l = (need, 0)
structure Qhg (x : Qgl) (l : Zf) (s : List UInt8) (p e : Int) : Prop where
 lim : x.l = l
 kept : x.kept = Qgo s
 frm : x.from' = 0
 plc : x.at' = p
 err : x.e = e
 none : x.out = []
 bad : e ≠ 0 → s = []
 Qfp : e = 0 → (Qfq s l).2.2 = 3
 waits : e = 0 → Qf8 l s x.need x.next
end
end Go.Av
namespace Go.Av
noncomputable section
open Go.Proofs
set_option maxRecDepth 100000
end
end Go.Av
namespace Go.Av
noncomputable section
open Go.Proofs
set_option maxRecDepth 100000
theorem Q5c : Zo 800000000 = some true := by decide +kernel
end
end Go.Av
