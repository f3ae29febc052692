/- An abstract machine for the modelled code, and what its runs say of real calls. Part of a proof of a given statement: for every input the law returns true and the arguments read as before; no condition beyond the given row. -/
import Derived.Test.YtkemhhfbpniioaaGreatDoorAvMeth
import Derived.Test.YtkemhhfbpniioaaGreatDoorAvFreeze
import Derived.Test.YtkemhhfbpniioaaGreatDoorAvDraws
namespace Go.Av
noncomputable section
mutual
def Q29 : PV → Bool
 | .bool _ => true
 | .int _ _ => true
 | .str _ => true
 | .nilPtr => true
 | .nilSlice => true
 | .nilMap => true
 | .nilFunc => true
 | .nilIface => true
 | .slice _ [] => true
 | .agg cs => Q8o cs
 | .tuple cs => Q8o cs
 | _ => false
def Q8o : List PV → Bool
 | [] => true
 | x :: xs => Q29 x && Q8o xs
end
mutual
theorem Qh8 {S S' : Nat → Prop} {w w' : World} : ∀ (x : PV) (v : Value), Q29 x = true → RelP S w x v → RelP S' w' x v
 | .bool _, _, _, h => by cases h; exact .bool _
 | .int _ _, _, _, h => by cases h; exact .int _ _
 | .str _, _, _, h => by cases h; exact .str _
 | .nilPtr, _, _, h => by cases h; exact .nilPtr
 | .nilSlice, _, _, h => by cases h; exact .nilSlice
 | .nilMap, _, _, h => by cases h; exact .nilMap
 | .nilFunc, _, _, h => by cases h; exact .nilFunc
 | .nilIface, _, _, h => by cases h; exact .nilIface
 | .slice e [], _, _, h => by
  cases h with
  | sliceE _ a c => exact .sliceE e a c
  | slice _ _ blk off cap val he hr hcap hS hc h1 hv => exact .sliceE e _ cap
 | .slice _ (_ :: _), _, h, _ => by simp [Q29] at h
 | .pmap _, _, h, _ => by simp [Q29] at h
 | .func _ _ _, _, h, _ => by simp [Q29] at h
 | .iface _ _, _, h, _ => by simp [Q29] at h
 | .agg cs, _, hf, h => by
  simp only [Q29] at hf
  cases h with
  | agg _ C hn h1 hv => exact .agg cs C hn h1 (Q8g cs hf (fun i => C.getD i Qv) hv)
 | .tuple cs, _, hf, h => by
  simp only [Q29] at hf
  cases h with
  | tuple _ C hn hv => exact .tuple cs C hn (Q8g cs hf (fun i => C.getD i Qv) hv)
theorem Q8g {S S' : Nat → Prop} {w w' : World} : ∀ (xs : List PV), Q8o xs = true → ∀ (g : Nat → Value), (∀ (i : Nat) x, xs[i]? = some x → RelP S w x (g i)) → ∀ (i : Nat) x, xs[i]? = some x → RelP S' w' x (g i)
 | [], _, _, _, i, x, hx => by simp at hx
 | y :: xs, hf, g, h, i, x, hx => by
  simp only [Q8o, Bool.and_eq_true] at hf
  cases i with
  | zero => simp at hx; subst hx; exact Qh8 y _ hf.1 (h 0 y rfl)
  | succ i => exact Q8g xs hf.2 (fun i => g (i + 1)) (fun i x hx => h (i + 1) x (by simpa using hx)) i x (by simpa using hx)
end

section
variable {P : Program} {Gl : Nat → Option (List PV)}
theorem Q7t {f : Nat} {args : List AV} {pargs : List PV} {r : PV} {H : List AObj} {Q : AV → List AObj → Prop} (hp : Zp P Gl f pargs r) (hf : FrzL (fun _ => True) H args pargs) (hr : Q29 r = true) (hq : Q (.p r) H) : Xv P Gl f args H Q := by
 refine ⟨hp.1, fun θ w cargs ha hH hG => ?_⟩
 obtain ⟨a1, a2⟩ := Qe4 (S := fun c => ¬ θ.bad c) hH (fun c h => h.1) (fun a o l _ ho hl hθ hb => hH.good a o l ho hl hθ hb) hf ha
 refine (hp.2 θ.bad w cargs hH.badlt a1 a2 (Qe2 hG (fun c _ hf => hf.1))).mono ?_
 rintro e w' ⟨cr, rfl, q1, q2⟩
 obtain ⟨h1, h2⟩ := Q7d hH q2
 exact ⟨_, cr, H, θ, rfl, hq, .p _ _ (Qh8 r cr hr q1), h1, h2⟩
end

def Qqw : Nat := 40
def Qal (H : List AObj) (vs : List AV) : Option (List PV) := Qm3 (Qir Qqw H) vs
def Qer (H : List AObj) (vs : List AV) : List Nat := vs.flatMap (Q08 Qqw H)
theorem Q2q {H : List AObj} (vs : List AV) (xs : List PV) (h : Qal H vs = some xs) : FrzL (fun a => a ∈ Qer H vs) H vs xs := Q04 (fun v x h => Q4e Qqw v x h) vs xs h
end
end Go.Av
