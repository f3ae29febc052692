/- An abstract machine for the modelled code, and what its runs say of real calls. Part of a proof of a given statement: for every input the law returns true and the arguments read as before; no condition beyond the given row. -/
import Derived.Test.YtkemhhfbpniioaaGreatDoorAvMeth
import Derived.Test.YtkemhhfbpniioaaGreatDoorAvFreeze
import Derived.Test.YtkemhhfbpniioaaGreatDoorAvDraws
namespace Go.Av
noncomputable section
mutual
def Q2d : PV → Bool
 | .bool _ => true
 | .int _ _ => true
 | .str _ => true
 | .nilPtr => true
 | .nilSlice => true
 | .nilMap => true
 | .nilFunc => true
 | .nilIface => true
 | .slice _ [] => true
 | .agg cs => Q8v cs
 | .tuple cs => Q8v cs
 | _ => false
def Q8v : List PV → Bool
 | [] => true
 | x :: xs => Q2d x && Q8v xs
end
mutual
theorem Qi1 {S S' : Nat → Prop} {w w' : World} : ∀ (x : PV) (v : Value), Q2d x = true → RelP S w x v → RelP S' w' x v
 | .bool _, _, _, h => by cases h; exact .bool _
 | .int _ _, _, _, h => by cases h; exact .int _ _
 | .str _, _, _, h => by cases h; exact .str _
 | .nilPtr, _, _, h => by cases h; exact .nilPtr
 | .nilSlice, _, _, h => by cases h; exact .nilSlice
 | .nilMap, _, _, h => by cases h; exact .nilMap
 | .nilFunc, _, _, h => by cases h; exact .nilFunc
 | .nilIface, _, _, h => by cases h; exact .nilIface
 | .slice e [], _, _, h => by
  cases h with
  | sliceE _ a c => exact .sliceE e a c
  | slice _ _ blk off cap val he hr hcap hS hc h1 hv => exact .sliceE e _ cap
 | .slice _ (_ :: _), _, h, _ => by simp [Q2d] at h
 | .pmap _, _, h, _ => by simp [Q2d] at h
 | .func _ _ _, _, h, _ => by simp [Q2d] at h
 | .iface _ _, _, h, _ => by simp [Q2d] at h
 | .agg cs, _, hf, h => by
  simp only [Q2d] at hf
  cases h with
  | agg _ C hn h1 hv => exact .agg cs C hn h1 (Q9h cs hf (fun i => C.getD i Qz) hv)
 | .tuple cs, _, hf, h => by
  simp only [Q2d] at hf
  cases h with
  | tuple _ C hn hv => exact .tuple cs C hn (Q9h cs hf (fun i => C.getD i Qz) hv)
theorem Q9h {S S' : Nat → Prop} {w w' : World} : ∀ (xs : List PV), Q8v xs = true → ∀ (g : Nat → Value), (∀ (i : Nat) x, xs[i]? = some x → RelP S w x (g i)) → ∀ (i : Nat) x, xs[i]? = some x → RelP S' w' x (g i)
 | [], _, _, _, i, x, hx => by simp at hx
 | y :: xs, hf, g, h, i, x, hx => by
  simp only [Q8v, Bool.and_eq_true] at hf
  cases i with
  | zero => simp at hx; subst hx; exact Qi1 y _ hf.1 (h 0 y rfl)
  | succ i => exact Q9h xs hf.2 (fun i => g (i + 1)) (fun i x hx => h (i + 1) x (by simpa using hx)) i x (by simpa using hx)
end

section
variable {P : Program} {Gl : Nat → Option (List PV)}
theorem Q9p {f : Nat} {args : List AV} {pargs : List PV} {r : PV} {H : List AObj} {Q : AV → List AObj → Prop} (hp : Zx P Gl f pargs r) (hf : FrzL (fun _ => True) H args pargs) (hr : Q2d r = true) (hq : Q (.p r) H) : X0 P Gl f args H Q := by
 refine ⟨hp.1, fun θ w cargs ha hH hG => ?_⟩
 obtain ⟨a1, a2⟩ := Qe2 (S := fun c => ¬ θ.bad c) hH (fun c h => h.1) (fun a o l _ ho hl hθ hb => hH.good a o l ho hl hθ hb) hf ha
 refine (hp.2 θ.bad w cargs hH.badlt a1 a2 (Qdd hG (fun c _ hf => hf.1))).mono ?_
 rintro e w' ⟨cr, rfl, q1, q2⟩
 obtain ⟨h1, h2⟩ := Q88 hH q2
 exact ⟨_, cr, H, θ, rfl, hq, .p _ _ (Qi1 r cr hr q1), h1, h2⟩
end

def Qrw : Nat := 40
def Qc2 (H : List AObj) (vs : List AV) : Option (List PV) := Qn5 (Qjo Qrw H) vs
def Qfg (H : List AObj) (vs : List AV) : List Nat := vs.flatMap (Q0g Qrw H)
theorem Q2z {H : List AObj} (vs : List AV) (xs : List PV) (h : Qc2 H vs = some xs) : FrzL (fun a => a ∈ Qfg H vs) H vs xs := Q06 (fun v x h => Q63 Qrw v x h) vs xs h
end
end Go.Av
