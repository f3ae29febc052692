/- An abstract machine for the modelled code, and what its runs say of real calls. Part of a proof of a given statement: for every input the law returns true and the arguments read as before; no condition beyond the given row. -/
import Derived.Test.YtegedmcbfmfjeaaDoorAvMeth
import Derived.Test.YtegedmcbfmfjeaaDoorAvFreeze
import Derived.Test.YtegedmcbfmfjeaaDoorAvDraws
namespace Go.Av
noncomputable section
mutual
def Jw : PV → Bool
 | .bool _ => true
 | .int _ _ => true
 | .str _ => true
 | .nilPtr => true
 | .nilSlice => true
 | .nilMap => true
 | .nilFunc => true
 | .nilIface => true
 | .slice _ [] => true
 | .agg cs => Q4k cs
 | .tuple cs => Q4k cs
 | _ => false
def Q4k : List PV → Bool
 | [] => true
 | x :: xs => Jw x && Q4k xs
end
mutual
theorem Qax {S S' : Nat → Prop} {w w' : World} : ∀ (x : PV) (v : Value), Jw x = true → RelP S w x v → RelP S' w' x v
 | .bool _, _, _, h => by cases h; exact .bool _
 | .int _ _, _, _, h => by cases h; exact .int _ _
 | .str _, _, _, h => by cases h; exact .str _
 | .nilPtr, _, _, h => by cases h; exact .nilPtr
 | .nilSlice, _, _, h => by cases h; exact .nilSlice
 | .nilMap, _, _, h => by cases h; exact .nilMap
 | .nilFunc, _, _, h => by cases h; exact .nilFunc
 | .nilIface, _, _, h => by cases h; exact .nilIface
 | .slice e [], _, _, h => by
  cases h with
  | sliceE _ a c => exact .sliceE e a c
  | slice _ _ blk off cap val he hr hcap hS hc h1 hv => exact .sliceE e _ cap
 | .slice _ (_ :: _), _, h, _ => by simp [Jw] at h
 | .pmap _, _, h, _ => by simp [Jw] at h
 | .func _ _ _, _, h, _ => by simp [Jw] at h
 | .iface _ _, _, h, _ => by simp [Jw] at h
 | .agg cs, _, hf, h => by
  simp only [Jw] at hf
  cases h with
  | agg _ C hn h1 hv => exact .agg cs C hn h1 (Q3s cs hf (fun i => C.getD i Z1) hv)
 | .tuple cs, _, hf, h => by
  simp only [Jw] at hf
  cases h with
  | tuple _ C hn hv => exact .tuple cs C hn (Q3s cs hf (fun i => C.getD i Z1) hv)
theorem Q3s {S S' : Nat → Prop} {w w' : World} : ∀ (xs : List PV), Q4k xs = true → ∀ (g : Nat → Value), (∀ (i : Nat) x, xs[i]? = some x → RelP S w x (g i)) → ∀ (i : Nat) x, xs[i]? = some x → RelP S' w' x (g i)
 | [], _, _, _, i, x, hx => by simp at hx
 | y :: xs, hf, g, h, i, x, hx => by
  simp only [Q4k, Bool.and_eq_true] at hf
  cases i with
  | zero => simp at hx; subst hx; exact Qax y _ hf.1 (h 0 y rfl)
  | succ i => exact Q3s xs hf.2 (fun i => g (i + 1)) (fun i x hx => h (i + 1) x (by simpa using hx)) i x (by simpa using hx)
end

section
variable {P : Program} {Gl : Nat → Option (List PV)}
theorem Q4u {f : Nat} {args : List AV} {pargs : List PV} {r : PV} {H : List AObj} {Q : AV → List AObj → Prop} (hp : Xp P Gl f pargs r) (hf : FrzL (fun _ => True) H args pargs) (hr : Jw r = true) (hq : Q (.p r) H) : Y3 P Gl f args H Q := by
 refine ⟨hp.1, fun θ w cargs ha hH hG => ?_⟩
 obtain ⟨a1, a2⟩ := Q8d (S := fun c => ¬ θ.bad c) hH (fun c h => h.1) (fun a o l _ ho hl hθ hb => hH.good a o l ho hl hθ hb) hf ha
 refine (hp.2 θ.bad w cargs hH.badlt a1 a2 (Q87 hG (fun c _ hf => hf.1))).mono ?_
 rintro e w' ⟨cr, rfl, q1, q2⟩
 obtain ⟨h1, h2⟩ := Q4z hH q2
 exact ⟨_, cr, H, θ, rfl, hq, .p _ _ (Qax r cr hr q1), h1, h2⟩
end

def Qjl : Nat := 40
def Q76 (H : List AObj) (vs : List AV) : Option (List PV) := Qg1 (Qd5 Qjl H) vs
def Qa6 (H : List AObj) (vs : List AV) : List Nat := vs.flatMap (Ui Qjl H)
theorem Ga {H : List AObj} (vs : List AV) (xs : List PV) (h : Q76 H vs = some xs) : FrzL (fun a => a ∈ Qa6 H vs) H vs xs := Ua (fun v x h => Q1v Qjl v x h) vs xs h
end
end Go.Av
