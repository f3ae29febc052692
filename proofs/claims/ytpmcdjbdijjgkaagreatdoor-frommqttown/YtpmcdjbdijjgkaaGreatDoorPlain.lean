/- Part of the proof of FrommqttOwn: for every input the law returns true; no condition. -/
import Derived.Test.YtpmcdjbdijjgkaaGreatDoorLiftF2
import Derived.Test.YtpmcdjbdijjgkaaGreatDoorAvTac
import Derived.Test.YtpmcdjbdijjgkaaGreatDoorOks
namespace Go.Av
noncomputable section
open Go.Proofs
@[simp] theorem Qwx (x y : Int) : (Q7 .lss x y = true) = (x < y) := by simp [Q7]
@[simp] theorem Qwz (x y : Int) : (Q7 .leq x y = true) = (x ≤ y) := by simp [Q7]
@[simp] theorem Qws (x y : Int) : (Q7 .gtr x y = true) = (x > y) := by simp [Q7]
@[simp] theorem Qx6 (x y : Int) : (Q7 .geq x y = true) = (x ≥ y) := by simp [Q7]
@[simp] theorem Qxp (x y : Int) : (Q7 .eql x y = true) = (x = y) := by simp [Q7]
@[simp] theorem Qxv (x y : Int) : (Q7 .neq x y = true) = (x ≠ y) := by simp [Q7]
theorem Qr6 (x : Int) (h : -9223372036854775808 ≤ x ∧ x ≤ 9223372036854775807) : IntKind.wrap .i64 x = x := IntWalk.i64_in x h
mutual
def Q5.sz : Q5 → Nat
 | .mk _ _ _ is => 1 + Q5.szs is
def Q5.szs : List Q5 → Nat
 | [] => 0
 | v :: l => v.sz + Q5.szs l
end
theorem Q5.sz_eq (v : Q5) : v.sz = 1 + Q5.szs v.Items := by cases v; simp [Q5.sz]
theorem Q5.szs_len : ∀ l : List Q5, l.length ≤ Q5.szs l
 | [] => by simp
 | v :: l => by
  have h1 := Q5.szs_len l;have h2 := Q5.sz_eq v;simp only [Q5.szs, Lm];omega
noncomputable instance : DecidableEq Q5 := fun a b => Classical.propDecidable (a = b)
end
end Go.Av
namespace Go.Av
noncomputable section
open Go.Proofs
mutual
def Q5.txt : Q5 → Prop
 | .mk _ _ t is => t.length ≤ 400 ∧ Q5.txts is
def Q5.txts : List Q5 → Prop
 | [] => True
 | v :: l => v.txt ∧ Q5.txts l
end
end
end Go.Av
namespace Go.Av
noncomputable section
open Go.Proofs
end
end Go.Av
namespace Go.Av
noncomputable section
end
end Go.Av
namespace Go.Av
noncomputable section
open Go.Proofs
end
end Go.Av
namespace Go.Av
noncomputable section
open Go.Proofs
set_option maxRecDepth 100000
set_option maxRecDepth 100000 in
end
end Go.Av
namespace Go.Av
noncomputable section
open Go.Proofs
set_option maxRecDepth 100000
end
end Go.Av
namespace Go.Av
noncomputable section
open Go.Proofs
set_option maxRecDepth 100000
def okU (n : Int) : Prop := 0 ≤ n ∧ n < 18446744073709551616
end
end Go.Av
namespace Go.Av
noncomputable section
open Go.Proofs
set_option maxRecDepth 100000
end
end Go.Av
namespace Go.Av
noncomputable section
open Go.Proofs
set_option maxRecDepth 100000
end
end Go.Av
namespace Go.Av
noncomputable section
open Go.Proofs
set_option maxRecDepth 100000
end
end Go.Av
namespace Go.Av
noncomputable section
open Go.Proofs
set_option maxRecDepth 100000
theorem Q5.ext' {v w : Q5} (h1 : v.Kind = w.Kind) (h2 : v.N' = w.N') (h3 : v.Text = w.Text) (h4 : v.Items = w.Items) : v = w := by
 cases v; cases w; simp_all
end
end Go.Av
namespace Go.Av
noncomputable section
open Go.Proofs
set_option maxRecDepth 100000
end
end Go.Av
namespace Go.Av
noncomputable section
open Go.Proofs
set_option maxRecDepth 100000
end
end Go.Av
namespace Go.Av
noncomputable section
open Go.Proofs
set_option maxRecDepth 100000
theorem kinds {k : Int} (h : 1 ≤ k ∧ k ≤ 21) : k = 1 ∨ k = 2 ∨ k = 3 ∨ k = 4 ∨ k = 5 ∨ k = 6 ∨ k = 7 ∨ k = 8 ∨ k = 9 ∨ k = 10 ∨ k = 11 ∨ k = 12 ∨ k = 13 ∨ k = 14 ∨ k = 15 ∨ k = 16 ∨ k = 17 ∨ k = 18 ∨ k = 19 ∨ k = 20 ∨ k = 21 := by omega
end
end Go.Av
namespace Go.Av
noncomputable section
open Go.Proofs
set_option maxRecDepth 100000
end
end Go.Av
namespace Go.Av
noncomputable section
open Go.Proofs
set_option maxRecDepth 100000
end
end Go.Av
namespace Go.Av
noncomputable section
open Go.Proofs
set_option maxRecDepth 100000
end
end Go.Av
namespace Go.Av
noncomputable section
open Go.Proofs
set_option maxRecDepth 100000
open Classical in
open Classical in
open Classical in
inductive Fine : Q5 → Prop
 | mk (v : Q5) (hn : okU v.N') (ht : v.Text.length ≤ 300000) (hi : ∀ x ∈ v.Items, Fine x) : Fine v
theorem Fine.num {v : Q5} (h : Fine v) : okU v.N' := by cases h; assumption
theorem Fine.text {v : Q5} (h : Fine v) : v.Text.length ≤ 300000 := by cases h; assumption
theorem Fine.items {v : Q5} (h : Fine v) : ∀ x ∈ v.Items, Fine x := by cases h; assumption
end
end Go.Av
namespace Go.Av
noncomputable section
open Go.Proofs
set_option maxRecDepth 100000
end
end Go.Av
namespace Go.Av
noncomputable section
open Go.Proofs
set_option maxRecDepth 100000
end
end Go.Av
namespace Go.Av
noncomputable section
open Go.Proofs
set_option maxRecDepth 100000
end
end Go.Av
namespace Go.Av
noncomputable section
open Go.Proofs
set_option maxRecDepth 100000
end
end Go.Av
namespace Go.Av
noncomputable section
open Go.Proofs
set_option maxRecDepth 100000
end
end Go.Av
namespace Go.Av
noncomputable section
open Go.Proofs
set_option maxRecDepth 100000
end
end Go.Av
