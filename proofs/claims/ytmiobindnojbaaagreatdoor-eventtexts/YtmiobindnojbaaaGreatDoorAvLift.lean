/- An abstract machine for the modelled code, and what its runs say of real calls. Part of a proof of a given statement: for every input the law returns true and the arguments read as before; no condition beyond the given row. -/
import Derived.Test.YtmiobindnojbaaaGreatDoorAvTac
namespace Go.Av
noncomputable section
section
variable {P : Program} {Gl : Nat → Option (List PV)}
theorem Jh {α β : Type} {x : Option α} {f : α → Option β} {r : β} (h : x.bind f = some r) : ∃ v, x = some v ∧ f v = some r := by
 cases x with
 | none => cases h
 | some v => exact ⟨v, rfl, h⟩
theorem ifO {b : Bool} {R : Type} {x y : Option R} {r : R} {X Y : Prop} (h : cond b x y = some r) (h1 : b = true → x = some r → X) (h2 : b = false → y = some r → Y) : @Bool.rec (fun _ => Prop) Y X b := by
 cases b
 ·exact h2 rfl h
 ·exact h1 rfl h
theorem Qcm {b : Bool} {R : Type} {x : Option R} {r : R} (h : cond b x none = some r) : b = true ∧ x = some r := by
 cases b
 ·cases h
 ·exact ⟨rfl, h⟩
theorem Uc {α : Type} {a r : α} (h : some a = some r) : a = r := by cases h; rfl
theorem Qgb {b : Bool} (h : b = false) : (!b) = true := by rw [h]; rfl
theorem Q47 {b : Bool} (h : b = true) : (!b) = false := by rw [h]; rfl
def Q7 {T : Type} (c : T → List PV) (l : List T) : List (List PV) := l.map c
theorem Qo {T : Type} (c : T → List PV) (l : List T) : (Q7 c l).length = l.length := by simp [Q7]
theorem Qiz {α β : Type} {l : List α} {i : Int} {y : α} (f : α → β) (h : idx l i = some y) : idx (l.map f) i = some (f y) := by
 cases i with
 | ofNat n => simp only [idx, List.getElem?_map] at h ⊢; rw [h]; rfl
 | negSucc n => cases h
theorem idx_rows {T : Type} {c : T → List PV} {l : List T} {i : Int} {y : T} (h : idx l i = some y) : idx (Q7 c l) i = some (c y) := Qiz c h
@[reducible] def cI (k : IntKind) (n : Int) : List PV := [.int k n]
@[reducible] def cU8 (b : UInt8) : List PV := [.int .u8 (b.toNat : Int)]
@[reducible] def cB (b : Bool) : List PV := [.bool b]
@[reducible] def cS (b : List UInt8) : List PV := [.str b]
@[reducible] def cL {T : Type} (e : Nat) (c : T → List PV) (l : List T) : List PV := [.slice e (Q7 c l)]
theorem wN : Qhq [] [] := trivial
abbrev Qf0 (k : IntKind) (x y : Int) : Int := k.wrap (BitVec.ofInt k.bits x &&& BitVec.ofInt k.bits y).toNat
abbrev orI (k : IntKind) (x y : Int) : Int := k.wrap (BitVec.ofInt k.bits x ||| BitVec.ofInt k.bits y).toNat
abbrev Qf7 (k : IntKind) (x y : Int) : Int := k.wrap (BitVec.ofInt k.bits x ^^^ BitVec.ofInt k.bits y).toNat
abbrev G6 (k : IntKind) (x y : Int) : Int := k.wrap (BitVec.ofInt k.bits x &&& ~~~ BitVec.ofInt k.bits y).toNat
abbrev Qc5 (k : IntKind) (x y : Int) : Int := k.wrap (x * 2 ^ (min y.toNat k.bits))
abbrev Q19 (k : IntKind) (x y : Int) : Int := x.fdiv (2 ^ (min y.toNat k.bits))
end
end
end Go.Av
