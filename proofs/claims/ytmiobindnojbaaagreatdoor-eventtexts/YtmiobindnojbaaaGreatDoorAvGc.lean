/- An abstract machine for the modelled code, and what its runs say of real calls. Part of a proof of a given statement: for every input the law returns true and the arguments read as before; no condition beyond the given row. -/
import Derived.Test.YtmiobindnojbaaaGreatDoorAvOwn
namespace Go.Av
noncomputable section
section
variable {P : Program} {Gl : Nat → Option (List PV)}
theorem RenV.mono {ρ : Nat → Nat} {K K' : Nat → Prop} {H : List AObj} (hk : ∀ a, K a → K' a) {v u : AV} (h : RenV ρ K H v u) : RenV ρ K' H v u := by
 induction h with
 | same u => exact .same u
 | any v => exact .any v
 | nil e a off => exact .nil e a off
 | frz v x h => exact .frz v x (Q72 (fun a o h1 h2 => ⟨hk a h1, h2⟩) h)
 | agg cs ds hn _ ih => exact .agg cs ds hn ih
 | tuple cs ds hn _ ih => exact .tuple cs ds hn ih
 | pagg ps ds hn _ ih => exact .pagg ps ds hn ih
def Qlq (ρ : Nat → Nat) (n m : Nat) (j : Nat) : Nat := if j < n then ρ j else m + (j - n)
def Qp2 (ρ : Nat → Nat) (H H0 H1 : List AObj) (i : Nat) (o : AObj) : Prop :=
 (KD ρ H0 i ∧ H[i]? = some o) ∨ (∃ j o1, H1[j]? = some o1 ∧ Qlq ρ H0.length H.length j = i ∧ (j < H0.length → i < H.length) ∧ o = Qjb (Qlq ρ H0.length H.length) o1)
def Qld (ρ : Nat → Nat) (H H0 H1 : List AObj) : Nat → List AObj → Prop
 | _, [] => True
 | i, .dead :: r => Qld ρ H H0 H1 (i + 1) r
 | i, o :: r => Qp2 ρ H H0 H1 i o ∧ Qld ρ H H0 H1 (i + 1) r
section
variable {ρ : Nat → Nat} {H H0 H1 : List AObj}
end
structure GcP (ρ : Nat → Nat) (vs : List AV) (H : List AObj) (args : List AV) (H0 H1 : List AObj) (r : AV) (H2 : List AObj) (r2 : AV) : Prop where
 vs : Q52 ρ (fun _ => False) H vs args
 ob : Q65 ρ (fun _ => False) H 0 H0
 inj : Qkw ρ 0 H0 = true
 refs : refsLt.refsLts H0.length args = true
 robj : (H0.all (G8 H0.length)) = true
 len : (Nat.beq H2.length (H.length + (H1.length - H0.length))) = true
 fin : Qld ρ H H0 H1 0 H2
 res : Q56 (Qlq ρ H0.length H.length) r = r2
end
end
end Go.Av
