/- An abstract machine for the modelled code, and what its runs say of real calls. Part of a proof of a given statement: for every input the law returns true and the arguments read as before; no condition beyond the given row. -/
import Derived.Test.YtegedmcbfmfjeaaDoorAvMeth
import Derived.Test.YtegedmcbfmfjeaaDoorAvFreeze
import Derived.Test.YtegedmcbfmfjeaaDoorAvDraws
namespace Go.Av
noncomputable section
mutual
def Jd : PV → Bool
 | .bool _ => true
 | .int _ _ => true
 | .str _ => true
 | .nilPtr => true
 | .nilSlice => true
 | .nilMap => true
 | .nilFunc => true
 | .nilIface => true
 | .slice _ [] => true
 | .agg cs => Q4m cs
 | .tuple cs => Q4m cs
 | _ => false
def Q4m : List PV → Bool
 | [] => true
 | x :: xs => Jd x && Q4m xs
end
mutual
theorem Qaw {S S' : Nat → Prop} {w w' : World} : ∀ (x : PV) (v : Value), Jd x = true → RelP S w x v → RelP S' w' x v
 | .bool _, _, _, h => by cases h; exact .bool _
 | .int _ _, _, _, h => by cases h; exact .int _ _
 | .str _, _, _, h => by cases h; exact .str _
 | .nilPtr, _, _, h => by cases h; exact .nilPtr
 | .nilSlice, _, _, h => by cases h; exact .nilSlice
 | .nilMap, _, _, h => by cases h; exact .nilMap
 | .nilFunc, _, _, h => by cases h; exact .nilFunc
 | .nilIface, _, _, h => by cases h; exact .nilIface
 | .slice e [], _, _, h => by
  cases h with
  | sliceE _ a c => exact .sliceE e a c
  | slice _ _ blk off cap val he hr hcap hS hc h1 hv => exact .sliceE e _ cap
 | .slice _ (_ :: _), _, h, _ => by simp [Jd] at h
 | .pmap _, _, h, _ => by simp [Jd] at h
 | .func _ _ _, _, h, _ => by simp [Jd] at h
 | .iface _ _, _, h, _ => by simp [Jd] at h
 | .agg cs, _, hf, h => by
  simp only [Jd] at hf
  cases h with
  | agg _ C hn h1 hv => exact .agg cs C hn h1 (Q38 cs hf (fun i => C.getD i Z0) hv)
 | .tuple cs, _, hf, h => by
  simp only [Jd] at hf
  cases h with
  | tuple _ C hn hv => exact .tuple cs C hn (Q38 cs hf (fun i => C.getD i Z0) hv)
theorem Q38 {S S' : Nat → Prop} {w w' : World} : ∀ (xs : List PV), Q4m xs = true → ∀ (g : Nat → Value), (∀ (i : Nat) x, xs[i]? = some x → RelP S w x (g i)) → ∀ (i : Nat) x, xs[i]? = some x → RelP S' w' x (g i)
 | [], _, _, _, i, x, hx => by simp at hx
 | y :: xs, hf, g, h, i, x, hx => by
  simp only [Q4m, Bool.and_eq_true] at hf
  cases i with
  | zero => simp at hx; subst hx; exact Qaw y _ hf.1 (h 0 y rfl)
  | succ i => exact Q38 xs hf.2 (fun i => g (i + 1)) (fun i x hx => h (i + 1) x (by simpa using hx)) i x (by simpa using hx)
end

section
variable {P : Program} {Gl : Nat → Option (List PV)}
theorem Q3l {f : Nat} {args : List AV} {pargs : List PV} {r : PV} {H : List AObj} {Q : AV → List AObj → Prop} (hp : Xw P Gl f pargs r) (hf : FrzL (fun _ => True) H args pargs) (hr : Jd r = true) (hq : Q (.p r) H) : Y4 P Gl f args H Q := by
 refine ⟨hp.1, fun θ w cargs ha hH hG => ?_⟩
 obtain ⟨a1, a2⟩ := Q8f (S := fun c => ¬ θ.bad c) hH (fun c h => h.1) (fun a o l _ ho hl hθ hb => hH.good a o l ho hl hθ hb) hf ha
 refine (hp.2 θ.bad w cargs hH.badlt a1 a2 (Q8w hG (fun c _ hf => hf.1))).mono ?_
 rintro e w' ⟨cr, rfl, q1, q2⟩
 obtain ⟨h1, h2⟩ := Q3d hH q2
 exact ⟨_, cr, H, θ, rfl, hq, .p _ _ (Qaw r cr hr q1), h1, h2⟩
end

def Qhv : Nat := 40
def Q6g (H : List AObj) (vs : List AV) : Option (List PV) := Qfd (Qcl Qhv H) vs
def Q9a (H : List AObj) (vs : List AV) : List Nat := vs.flatMap (U3 Qhv H)
theorem Jp {H : List AObj} (vs : List AV) (xs : List PV) (h : Q6g H vs = some xs) : FrzL (fun a => a ∈ Q9a H vs) H vs xs := Vu (fun v x h => Q1a Qhv v x h) vs xs h
end
end Go.Av
