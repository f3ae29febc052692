/- The law. Part of a proof of a given statement: for every input the law returns true and the arguments read as before; no condition beyond the given row. -/
import Derived.Test.YtmiobindnojbaaaGreatDoorAvAbb
namespace Go.Av
noncomputable section
section
variable {P : Program} {Gl : Nat → Option (List PV)} {R T : Type}
def Qjs (c : T → PV) (tab : List (Int × T)) : List (PV × PV) := tab.map fun q => (.int .i64 q.1, c q.2)
def Ji : List (Int × T) → Int → Option T
 | [], _ => none
 | (k, v) :: r, x => bif x == k then some v else Ji r x
def optC (o : Option T) (f : T → Option R) (z : Option R) : Option R := match o with
 | some v => f v
 | none => z
theorem Qcv {α : Type} {q n : Int} {a b : Option α} {r : α} {G : Prop} (h : cond (q == n) a b = some r) (h1 : q = n → a = some r → G) (h2 : b = some r → G) : G := by
 cases hb : q == n with
 | true => rw [hb] at h; exact h1 (eq_of_beq hb) h
 | false => rw [hb] at h; exact h2 h
theorem Qhc {ks : List Nat} {xs ys : List AV} {b : Bool} {K : Bool → Prop} (h : Zk ks xs ys = some b) (hk : K b) : Q14 (EP P Gl) K ks xs ys := by
 rw [Q5r, h]; exact hk
theorem Ql4 {x : PV} {K : Option PV → Prop} (h : K none) : Q74 (EP P Gl) x [] K := by
 unfold Q74; rw [Q7n]; exact h
theorem Qdl {x c : Int} {v : PV} {r : List (PV × PV)} {K : Option PV → Prop} (h1 : (x == c) = true → K (some v)) (h2 : (x == c) = false → Q74 (EP P Gl) (.int .i64 x) r K) :
  Q74 (EP P Gl) (.int .i64 x) ((.int .i64 c, v) :: r) K := by
 unfold Q74 at h2 ⊢
 rw [Q5f]
 have e : Xx (.int .i64 x) (.int .i64 c) = some (x == c) := rfl
 rw [e]
 cases hb : x == c with
 | true => exact h1 hb
 | false => exact h2 hb
theorem Qaj {c : T → PV} {x : Int} : ∀ (tab : List (Int × T)) {K : Option PV → Prop}, K ((Ji tab x).map c) → Q74 (EP P Gl) (.int .i64 x) (Qjs c tab) K
 | [], K, h => Ql4 h
 | (k, v) :: r, K, h => Qdl (fun e => by simpa [Ji, e] using h) (fun e => Qaj r (by simpa [Ji, e] using h))
theorem Qdr {tab : List (Int × T)} {x : Int} {c : T → PV} {f : T → Option R} {z : Option R} {r : R} {K : Option PV → Prop} (h : optC (Ji tab x) f z = some r) (h1 : ∀ v, Ji tab x = some v → f v = some r → K (some (c v)))
  (h2 : Ji tab x = none → z = some r → K none) : Q74 (EP P Gl) (.int .i64 x) (Qjs c tab) K := by
 refine Qaj tab ?_
 cases hl : Ji tab x with
 | none => rw [hl] at h; exact h2 hl h
 | some v => rw [hl] at h; exact h1 v hl h
end
end
end Go.Av
