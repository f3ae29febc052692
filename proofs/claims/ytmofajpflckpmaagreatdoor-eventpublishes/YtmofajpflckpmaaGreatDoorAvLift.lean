/- An abstract machine for the modelled code, and what its runs say of real calls. Part of a proof of a given statement: for every input the law returns true and the arguments read as before; no condition beyond the given row. -/
import Derived.Test.YtmofajpflckpmaaGreatDoorAvTac
namespace Go.Av
noncomputable section
section
variable {P : Program} {Gl : Nat → Option (List PV)}
theorem Um {α β : Type} {x : Option α} {f : α → Option β} {r : β} (h : x.bind f = some r) : ∃ v, x = some v ∧ f v = some r := by
 cases x with
 | none => cases h
 | some v => exact ⟨v, rfl, h⟩
theorem ifO {b : Bool} {R : Type} {x y : Option R} {r : R} {X Y : Prop} (h : cond b x y = some r) (h1 : b = true → x = some r → X) (h2 : b = false → y = some r → Y) : @Bool.rec (fun _ => Prop) Y X b := by
 cases b
 ·exact h2 rfl h
 ·exact h1 rfl h
theorem Qbk {b : Bool} {R : Type} {x : Option R} {r : R} (h : cond b x none = some r) : b = true ∧ x = some r := by
 cases b
 ·cases h
 ·exact ⟨rfl, h⟩
theorem Z2 {α : Type} {a r : α} (h : some a = some r) : a = r := by cases h; rfl
theorem Qdz {b : Bool} (h : b = false) : (!b) = true := by rw [h]; rfl
theorem Q2w {b : Bool} (h : b = true) : (!b) = false := by rw [h]; rfl
def Qe {T : Type} (c : T → List PV) (l : List T) : List (List PV) := l.map c
theorem Qg2 {α β : Type} {l : List α} {i : Int} {y : α} (f : α → β) (h : idx l i = some y) : idx (l.map f) i = some (f y) := by
 cases i with
 | ofNat n => simp only [idx, List.getElem?_map] at h ⊢; rw [h]; rfl
 | negSucc n => cases h
theorem idx_rows {T : Type} {c : T → List PV} {l : List T} {i : Int} {y : T} (h : idx l i = some y) : idx (Qe c l) i = some (c y) := Qg2 c h
@[reducible] def cI (k : IntKind) (n : Int) : List PV := [.int k n]
@[reducible] def cU8 (b : UInt8) : List PV := [.int .u8 (b.toNat : Int)]
@[reducible] def cB (b : Bool) : List PV := [.bool b]
@[reducible] def cS (b : List UInt8) : List PV := [.str b]
@[reducible] def cL {T : Type} (e : Nat) (c : T → List PV) (l : List T) : List PV := [.slice e (Qe c l)]
theorem wN : Qgn [] [] := trivial
abbrev Qep (k : IntKind) (x y : Int) : Int := k.wrap (BitVec.ofInt k.bits x &&& BitVec.ofInt k.bits y).toNat
abbrev orI (k : IntKind) (x y : Int) : Int := k.wrap (BitVec.ofInt k.bits x ||| BitVec.ofInt k.bits y).toNat
abbrev Qfd (k : IntKind) (x y : Int) : Int := k.wrap (BitVec.ofInt k.bits x ^^^ BitVec.ofInt k.bits y).toNat
abbrev G8 (k : IntKind) (x y : Int) : Int := k.wrap (BitVec.ofInt k.bits x &&& ~~~ BitVec.ofInt k.bits y).toNat
abbrev Qbp (k : IntKind) (x y : Int) : Int := k.wrap (x * 2 ^ (min y.toNat k.bits))
abbrev Qbo (k : IntKind) (x y : Int) : Int := x.fdiv (2 ^ (min y.toNat k.bits))
end
end
end Go.Av
