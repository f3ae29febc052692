/- An abstract machine for the modelled code, and what its runs say of real calls. Part of a proof of a given statement: for every input the law returns true and the arguments read as before; no condition beyond the given row. -/
import Derived.Test.YtegedmcbfmfjeaaGreatDoorAvTac
namespace Go.Av
noncomputable section
section
variable {P : Program} {Gl : Nat → Option (List PV)}
theorem Q0v {α β : Type} {x : Option α} {f : α → Option β} {r : β} (h : x.bind f = some r) : ∃ v, x = some v ∧ f v = some r := by
 cases x with
 | none => cases h
 | some v => exact ⟨v, rfl, h⟩
theorem ifO {b : Bool} {R : Type} {x y : Option R} {r : R} {X Y : Prop} (h : cond b x y = some r) (h1 : b = true → x = some r → X) (h2 : b = false → y = some r → Y) : @Bool.rec (fun _ => Prop) Y X b := by
 cases b
 ·exact h2 rfl h
 ·exact h1 rfl h
theorem Jx {b : Bool} {R : Type} {x : Option R} {r : R} (h : cond b x none = some r) : b = true ∧ x = some r := by
 cases b
 ·cases h
 ·exact ⟨rfl, h⟩
theorem Qa {α : Type} {a r : α} (h : some a = some r) : a = r := by cases h; rfl
theorem Qge {f : Nat} {cells args : List PV} {r : PV} {cells' : List PV} (hm : Qb4 P Gl f cells args r cells') {H : List AObj} {a : Nat} (ha : H[a]? = some (.cells (cells.map .p))) {vs : List AV}
  (hvs : FrzL (fun _ => False) H vs args) {k : AV → List AObj → List Nat → List Nat → Prop} (hk : k (.p r) (H.set a (.cells (cells'.map .p))) [a] [a]) : V9 P Gl f (.ptr a 0 :: vs) H k := by
 refine ⟨[a], [(a, .cells (cells'.map .p))], .p r, fun s hs => ?_, fun H2 hH2 => ?_, hk⟩
 ·simp at hs; subst hs; exact (List.getElem?_eq_some_iff.1 ha).1
 ·refine Q4f hm (hH2 a (by simp) _ ha) (hvs.K (fun _ _ h _ => h.elim)) ⟨rfl, rfl⟩
def Qv {T : Type} (c : T → List PV) (l : List T) : List (List PV) := l.map c
theorem Vh {T : Type} (c : T → List PV) (l : List T) : (Qv c l).length = l.length := by simp [Qv]
theorem Qn6 {α β : Type} {l : List α} {i : Int} {y : α} (f : α → β) (h : idx l i = some y) : idx (l.map f) i = some (f y) := by
 cases i with
 | ofNat n => simp only [idx, List.getElem?_map] at h ⊢; rw [h]; rfl
 | negSucc n => cases h
theorem idx_rows {T : Type} {c : T → List PV} {l : List T} {i : Int} {y : T} (h : idx l i = some y) : idx (Qv c l) i = some (c y) := Qn6 c h
@[reducible] def cI (k : IntKind) (n : Int) : List PV := [.int k n]
@[reducible] def cU8 (b : UInt8) : List PV := [.int .u8 (b.toNat : Int)]
@[reducible] def cB (b : Bool) : List PV := [.bool b]
@[reducible] def cS (b : List UInt8) : List PV := [.str b]
@[reducible] def cL {T : Type} (e : Nat) (c : T → List PV) (l : List T) : List PV := [.slice e (Qv c l)]
theorem wN : Qaq [] [] := trivial
abbrev Q3l (k : IntKind) (x y : Int) : Int := k.wrap (BitVec.ofInt k.bits x &&& BitVec.ofInt k.bits y).toNat
abbrev orI (k : IntKind) (x y : Int) : Int := k.wrap (BitVec.ofInt k.bits x ||| BitVec.ofInt k.bits y).toNat
abbrev Qqy (k : IntKind) (x y : Int) : Int := k.wrap (BitVec.ofInt k.bits x ^^^ BitVec.ofInt k.bits y).toNat
abbrev Qde (k : IntKind) (x y : Int) : Int := k.wrap (BitVec.ofInt k.bits x &&& ~~~ BitVec.ofInt k.bits y).toNat
abbrev Jh (k : IntKind) (x y : Int) : Int := k.wrap (x * 2 ^ (min y.toNat k.bits))
abbrev Q6a (k : IntKind) (x y : Int) : Int := x.fdiv (2 ^ (min y.toNat k.bits))
end
end
end Go.Av
