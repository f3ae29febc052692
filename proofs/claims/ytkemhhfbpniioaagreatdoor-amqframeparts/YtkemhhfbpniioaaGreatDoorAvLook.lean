/- An abstract machine for the modelled code, and what its runs say of real calls. Part of a proof of a given statement: for every input the law returns true and the arguments read as before; no condition beyond the given row. -/
import Derived.Test.YtkemhhfbpniioaaGreatDoorAvMeth
import Derived.Test.YtkemhhfbpniioaaGreatDoorAvFreeze
import Derived.Test.YtkemhhfbpniioaaGreatDoorAvDraws
namespace Go.Av
noncomputable section
mutual
def Q32 : PV → Bool
 | .bool _ => true
 | .int _ _ => true
 | .str _ => true
 | .nilPtr => true
 | .nilSlice => true
 | .nilMap => true
 | .nilFunc => true
 | .nilIface => true
 | .slice _ [] => true
 | .agg cs => Q94 cs
 | .tuple cs => Q94 cs
 | _ => false
def Q94 : List PV → Bool
 | [] => true
 | x :: xs => Q32 x && Q94 xs
end
mutual
theorem Qh4 {S S' : Nat → Prop} {w w' : World} : ∀ (x : PV) (v : Value), Q32 x = true → RelP S w x v → RelP S' w' x v
 | .bool _, _, _, h => by cases h; exact .bool _
 | .int _ _, _, _, h => by cases h; exact .int _ _
 | .str _, _, _, h => by cases h; exact .str _
 | .nilPtr, _, _, h => by cases h; exact .nilPtr
 | .nilSlice, _, _, h => by cases h; exact .nilSlice
 | .nilMap, _, _, h => by cases h; exact .nilMap
 | .nilFunc, _, _, h => by cases h; exact .nilFunc
 | .nilIface, _, _, h => by cases h; exact .nilIface
 | .slice e [], _, _, h => by
  cases h with
  | sliceE _ a c => exact .sliceE e a c
  | slice _ _ blk off cap val he hr hcap hS hc h1 hv => exact .sliceE e _ cap
 | .slice _ (_ :: _), _, h, _ => by simp [Q32] at h
 | .pmap _, _, h, _ => by simp [Q32] at h
 | .func _ _ _, _, h, _ => by simp [Q32] at h
 | .iface _ _, _, h, _ => by simp [Q32] at h
 | .agg cs, _, hf, h => by
  simp only [Q32] at hf
  cases h with
  | agg _ C hn h1 hv => exact .agg cs C hn h1 (Q9k cs hf (fun i => C.getD i Qs) hv)
 | .tuple cs, _, hf, h => by
  simp only [Q32] at hf
  cases h with
  | tuple _ C hn hv => exact .tuple cs C hn (Q9k cs hf (fun i => C.getD i Qs) hv)
theorem Q9k {S S' : Nat → Prop} {w w' : World} : ∀ (xs : List PV), Q94 xs = true → ∀ (g : Nat → Value), (∀ (i : Nat) x, xs[i]? = some x → RelP S w x (g i)) → ∀ (i : Nat) x, xs[i]? = some x → RelP S' w' x (g i)
 | [], _, _, _, i, x, hx => by simp at hx
 | y :: xs, hf, g, h, i, x, hx => by
  simp only [Q94, Bool.and_eq_true] at hf
  cases i with
  | zero => simp at hx; subst hx; exact Qh4 y _ hf.1 (h 0 y rfl)
  | succ i => exact Q9k xs hf.2 (fun i => g (i + 1)) (fun i x hx => h (i + 1) x (by simpa using hx)) i x (by simpa using hx)
end

section
variable {P : Program} {Gl : Nat → Option (List PV)}
theorem Q9q {f : Nat} {args : List AV} {pargs : List PV} {r : PV} {H : List AObj} {Q : AV → List AObj → Prop} (hp : Zo P Gl f pargs r) (hf : FrzL (fun _ => True) H args pargs) (hr : Q32 r = true) (hq : Q (.p r) H) : Xt P Gl f args H Q := by
 refine ⟨hp.1, fun θ w cargs ha hH hG => ?_⟩
 obtain ⟨a1, a2⟩ := Qe4 (S := fun c => ¬ θ.bad c) hH (fun c h => h.1) (fun a o l _ ho hl hθ hb => hH.good a o l ho hl hθ hb) hf ha
 refine (hp.2 θ.bad w cargs hH.badlt a1 a2 (Qe2 hG (fun c _ hf => hf.1))).mono ?_
 rintro e w' ⟨cr, rfl, q1, q2⟩
 obtain ⟨h1, h2⟩ := Q84 hH q2
 exact ⟨_, cr, H, θ, rfl, hq, .p _ _ (Qh4 r cr hr q1), h1, h2⟩
end

def Qq3 : Nat := 40
def Qc0 (H : List AObj) (vs : List AV) : Option (List PV) := Qmj (Qjg Qq3 H) vs
def Qg0 (H : List AObj) (vs : List AV) : List Nat := vs.flatMap (Q0u Qq3 H)
theorem Q3x {H : List AObj} (vs : List AV) (xs : List PV) (h : Qc0 H vs = some xs) : FrzL (fun a => a ∈ Qg0 H vs) H vs xs := Q0e (fun v x h => Q5l Qq3 v x h) vs xs h
end
end Go.Av
