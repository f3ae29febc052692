/- Part of the proof of CrossNames: for every input the law returns true; no condition. -/
import Derived.Test.YtnbfaogioomghaaGreatDoorAvTac
namespace Go.Av
noncomputable section
section
variable {P : Program} {Gl : Nat → Option (List PV)}
theorem Gb {α β : Type} {x : Option α} {f : α → Option β} {r : β} (h : x.bind f = some r) : ∃ v, x = some v ∧ f v = some r := by
 cases x with
 | none => cases h
 | some v => exact ⟨v, rfl, h⟩
theorem ifO {b : Bool} {R : Type} {x y : Option R} {r : R} {X Y : Prop} (h : cond b x y = some r) (h1 : b = true → x = some r → X) (h2 : b = false → y = some r → Y) : @Bool.rec (fun _ => Prop) Y X b := by
 cases b
 ·exact h2 rfl h
 exact h1 rfl h
theorem Qiu {b : Bool} {R : Type} {x : Option R} {r : R} (h : cond b x none = some r) : b = true ∧ x = some r := by
 cases b
 ·cases h
 exact ⟨rfl, h⟩
theorem Yg {α : Type} {a r : α} (h : some a = some r) : a = r := by cases h; rfl
def Zc {T : Type} (c : T → List PV) (l : List T) : List (List PV) := l.map c
theorem Q6i {T : Type} (c : T → List PV) (l : List T) : (Zc c l).length = l.length := by simp [Zc]
theorem Qg1 {α β : Type} {l : List α} {i : Int} {y : α} (f : α → β) (h : idx l i = some y) : idx (l.map f) i = some (f y) := by
 cases i with
 | ofNat n => simp only [idx, Lh] at h ⊢; rw [h]; rfl
 | negSucc n => cases h
theorem idx_rows {T : Type} {c : T → List PV} {l : List T} {i : Int} {y : T} (h : idx l i = some y) : idx (Zc c l) i = some (c y) := Qg1 c h
@[reducible] def cI (k : IntKind) (n : Int) : List PV := [.int k n]
@[reducible] def cU8 (b : UInt8) : List PV := [.int .u8 (b.toNat : Int)]
@[reducible] def cB (b : Bool) : List PV := [.bool b]
@[reducible] def cS (b : List UInt8) : List PV := [.str b]
@[reducible] def cL {T : Type} (e : Nat) (c : T → List PV) (l : List T) : List PV := [.slice e (Zc c l)]
theorem wN : Q4k [] [] := trivial
abbrev Qab (k : IntKind) (x y : Int) : Int := k.wrap (BitVec.ofInt k.bits x &&& BitVec.ofInt k.bits y).toNat
abbrev orI (k : IntKind) (x y : Int) : Int := k.wrap (BitVec.ofInt k.bits x ||| BitVec.ofInt k.bits y).toNat
abbrev Qjf (k : IntKind) (x y : Int) : Int := k.wrap (BitVec.ofInt k.bits x ^^^ BitVec.ofInt k.bits y).toNat
abbrev Q7g (k : IntKind) (x y : Int) : Int := k.wrap (BitVec.ofInt k.bits x &&& ~~~ BitVec.ofInt k.bits y).toNat
abbrev Q5q (k : IntKind) (x y : Int) : Int := k.wrap (x * 2 ^ (min y.toNat k.bits))
abbrev Qb1 (k : IntKind) (x y : Int) : Int := x.fdiv (2 ^ (min y.toNat k.bits))
end
end
end Go.Av
