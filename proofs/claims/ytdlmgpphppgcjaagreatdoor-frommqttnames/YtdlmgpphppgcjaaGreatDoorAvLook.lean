/- An abstract machine for the modelled code, and what its runs say of real calls. Part of a proof of a given statement: for every input the law returns true and the arguments read as before; no condition beyond the given row. -/
import Derived.Test.YtdlmgpphppgcjaaGreatDoorAvMeth
import Derived.Test.YtdlmgpphppgcjaaGreatDoorAvFreeze
import Derived.Test.YtdlmgpphppgcjaaGreatDoorAvDraws
namespace Go.Av
noncomputable section
mutual
def Yr : PV → Bool
 | .bool _ => true
 | .int _ _ => true
 | .str _ => true
 | .nilPtr => true
 | .nilSlice => true
 | .nilMap => true
 | .nilFunc => true
 | .nilIface => true
 | .slice _ [] => true
 | .agg cs => Ub cs
 | .tuple cs => Ub cs
 | _ => false
def Ub : List PV → Bool
 | [] => true
 | x :: xs => Yr x && Ub xs
end
mutual
theorem Q23 {S S' : Nat → Prop} {w w' : World} : ∀ (x : PV) (v : Value), Yr x = true → RelP S w x v → RelP S' w' x v
 | .bool _, _, _, h => by cases h; exact .bool _
 | .int _ _, _, _, h => by cases h; exact .int _ _
 | .str _, _, _, h => by cases h; exact .str _
 | .nilPtr, _, _, h => by cases h; exact .nilPtr
 | .nilSlice, _, _, h => by cases h; exact .nilSlice
 | .nilMap, _, _, h => by cases h; exact .nilMap
 | .nilFunc, _, _, h => by cases h; exact .nilFunc
 | .nilIface, _, _, h => by cases h; exact .nilIface
 | .slice e [], _, _, h => by
  cases h with
  | sliceE _ a c => exact .sliceE e a c
  | slice _ _ blk off cap val he hr hcap hS hc h1 hv => exact .sliceE e _ cap
 | .slice _ (_ :: _), _, h, _ => by simp [Yr] at h
 | .pmap _, _, h, _ => by simp [Yr] at h
 | .func _ _ _, _, h, _ => by simp [Yr] at h
 | .iface _ _, _, h, _ => by simp [Yr] at h
 | .agg cs, _, hf, h => by
  simp only [Yr] at hf
  cases h with
  | agg _ C hn h1 hv => exact .agg cs C hn h1 (Vy cs hf (fun i => C.getD i Q9) hv)
 | .tuple cs, _, hf, h => by
  simp only [Yr] at hf
  cases h with
  | tuple _ C hn hv => exact .tuple cs C hn (Vy cs hf (fun i => C.getD i Q9) hv)
theorem Vy {S S' : Nat → Prop} {w w' : World} : ∀ (xs : List PV), Ub xs = true → ∀ (g : Nat → Value), (∀ (i : Nat) x, xs[i]? = some x → RelP S w x (g i)) → ∀ (i : Nat) x, xs[i]? = some x → RelP S' w' x (g i)
 | [], _, _, _, i, x, hx => by simp at hx
 | y :: xs, hf, g, h, i, x, hx => by
  simp only [Ub, Bool.and_eq_true] at hf
  cases i with
  | zero => simp at hx; subst hx; exact Q23 y _ hf.1 (h 0 y rfl)
  | succ i => exact Vy xs hf.2 (fun i => g (i + 1)) (fun i x hx => h (i + 1) x (by simpa using hx)) i x (by simpa using hx)
end

section
variable {P : Program} {Gl : Nat → Option (List PV)}
theorem Gp {f : Nat} {args : List AV} {pargs : List PV} {r : PV} {H : List AObj} {Q : AV → List AObj → Prop} (hp : Q4y P Gl f pargs r) (hf : FrzL (fun _ => True) H args pargs) (hr : Yr r = true) (hq : Q (.p r) H) : Qz P Gl f args H Q := by
 refine ⟨hp.1, fun θ w cargs ha hH hG => ?_⟩
 obtain ⟨a1, a2⟩ := Q03 (S := fun c => ¬ θ.bad c) hH (fun c h => h.1) (fun a o l _ ho hl hθ hb => hH.good a o l ho hl hθ hb) hf ha
 refine (hp.2 θ.bad w cargs hH.badlt a1 a2 (Gt hG (fun c _ hf => hf.1))).mono ?_
 rintro e w' ⟨cr, rfl, q1, q2⟩
 obtain ⟨h1, h2⟩ := U4 hH q2
 exact ⟨_, cr, H, θ, rfl, hq, .p _ _ (Q23 r cr hr q1), h1, h2⟩
end

def Q6p : Nat := 40
def Jl (H : List AObj) (vs : List AV) : Option (List PV) := Q4a (Q32 Q6p H) vs
def Q19 (H : List AObj) (vs : List AV) : List Nat := vs.flatMap (Ze Q6p H)
theorem Yu {H : List AObj} (vs : List AV) (xs : List PV) (h : Jl H vs = some xs) : FrzL (fun a => a ∈ Q19 H vs) H vs xs := Zj (fun v x h => W3 Q6p v x h) vs xs h
end
end Go.Av
