/- The law. Part of a proof of a given statement: for every input the law returns true and the arguments read as before; no condition beyond the given row. -/
import Derived.Test.YtmofajpflckpmaaGreatDoorAvAbb
namespace Go.Av
noncomputable section
section
variable {P : Program} {Gl : Nat → Option (List PV)} {R T : Type}
def Qig (c : T → PV) (tab : List (Int × T)) : List (PV × PV) := tab.map fun q => (.int .i64 q.1, c q.2)
def Q4c : List (Int × T) → Int → Option T
 | [], _ => none
 | (k, v) :: r, x => bif x == k then some v else Q4c r x
def optC (o : Option T) (f : T → Option R) (z : Option R) : Option R := match o with
 | some v => f v
 | none => z
theorem Qfh {ks : List Nat} {xs ys : List AV} {b : Bool} {K : Bool → Prop} (h : Z7 ks xs ys = some b) (hk : K b) : Q0e (EP P Gl) K ks xs ys := by
 rw [Q4v, h]; exact hk
theorem Qjm {x : PV} {K : Option PV → Prop} (h : K none) : Q64 (EP P Gl) x [] K := by
 unfold Q64; rw [Q73]; exact h
theorem Qcm {x c : Int} {v : PV} {r : List (PV × PV)} {K : Option PV → Prop} (h1 : (x == c) = true → K (some v)) (h2 : (x == c) = false → Q64 (EP P Gl) (.int .i64 x) r K) :
  Q64 (EP P Gl) (.int .i64 x) ((.int .i64 c, v) :: r) K := by
 unfold Q64 at h2 ⊢
 rw [Q4r]
 have e : X5 (.int .i64 x) (.int .i64 c) = some (x == c) := rfl
 rw [e]
 cases hb : x == c with
 | true => exact h1 hb
 | false => exact h2 hb
theorem Q9u {c : T → PV} {x : Int} : ∀ (tab : List (Int × T)) {K : Option PV → Prop}, K ((Q4c tab x).map c) → Q64 (EP P Gl) (.int .i64 x) (Qig c tab) K
 | [], K, h => Qjm h
 | (k, v) :: r, K, h => Qcm (fun e => by simpa [Q4c, e] using h) (fun e => Q9u r (by simpa [Q4c, e] using h))
theorem Qf1 {tab : List (Int × T)} {x : Int} {c : T → PV} {f : T → Option R} {z : Option R} {r : R} {K : Option PV → Prop} (h : optC (Q4c tab x) f z = some r) (h1 : ∀ v, Q4c tab x = some v → f v = some r → K (some (c v)))
  (h2 : Q4c tab x = none → z = some r → K none) : Q64 (EP P Gl) (.int .i64 x) (Qig c tab) K := by
 refine Q9u tab ?_
 cases hl : Q4c tab x with
 | none => rw [hl] at h; exact h2 hl h
 | some v => rw [hl] at h; exact h1 v hl h
end
end
end Go.Av
