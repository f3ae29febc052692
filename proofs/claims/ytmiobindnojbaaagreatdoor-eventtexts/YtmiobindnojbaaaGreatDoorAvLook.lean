/- An abstract machine for the modelled code, and what its runs say of real calls. Part of a proof of a given statement: for every input the law returns true and the arguments read as before; no condition beyond the given row. -/
import Derived.Test.YtmiobindnojbaaaGreatDoorAvMeth
import Derived.Test.YtmiobindnojbaaaGreatDoorAvFreeze
import Derived.Test.YtmiobindnojbaaaGreatDoorAvDraws
namespace Go.Av
noncomputable section
mutual
def Gy : PV → Bool
 | .bool _ => true
 | .int _ _ => true
 | .str _ => true
 | .nilPtr => true
 | .nilSlice => true
 | .nilMap => true
 | .nilFunc => true
 | .nilIface => true
 | .slice _ [] => true
 | .agg cs => Q3l cs
 | .tuple cs => Q3l cs
 | _ => false
def Q3l : List PV → Bool
 | [] => true
 | x :: xs => Gy x && Q3l xs
end
mutual
theorem Qaa {S S' : Nat → Prop} {w w' : World} : ∀ (x : PV) (v : Value), Gy x = true → RelP S w x v → RelP S' w' x v
 | .bool _, _, _, h => by cases h; exact .bool _
 | .int _ _, _, _, h => by cases h; exact .int _ _
 | .str _, _, _, h => by cases h; exact .str _
 | .nilPtr, _, _, h => by cases h; exact .nilPtr
 | .nilSlice, _, _, h => by cases h; exact .nilSlice
 | .nilMap, _, _, h => by cases h; exact .nilMap
 | .nilFunc, _, _, h => by cases h; exact .nilFunc
 | .nilIface, _, _, h => by cases h; exact .nilIface
 | .slice e [], _, _, h => by
  cases h with
  | sliceE _ a c => exact .sliceE e a c
  | slice _ _ blk off cap val he hr hcap hS hc h1 hv => exact .sliceE e _ cap
 | .slice _ (_ :: _), _, h, _ => by simp [Gy] at h
 | .pmap _, _, h, _ => by simp [Gy] at h
 | .func _ _ _, _, h, _ => by simp [Gy] at h
 | .iface _ _, _, h, _ => by simp [Gy] at h
 | .agg cs, _, hf, h => by
  simp only [Gy] at hf
  cases h with
  | agg _ C hn h1 hv => exact .agg cs C hn h1 (Q4d cs hf (fun i => C.getD i Qp) hv)
 | .tuple cs, _, hf, h => by
  simp only [Gy] at hf
  cases h with
  | tuple _ C hn hv => exact .tuple cs C hn (Q4d cs hf (fun i => C.getD i Qp) hv)
theorem Q4d {S S' : Nat → Prop} {w w' : World} : ∀ (xs : List PV), Q3l xs = true → ∀ (g : Nat → Value), (∀ (i : Nat) x, xs[i]? = some x → RelP S w x (g i)) → ∀ (i : Nat) x, xs[i]? = some x → RelP S' w' x (g i)
 | [], _, _, _, i, x, hx => by simp at hx
 | y :: xs, hf, g, h, i, x, hx => by
  simp only [Q3l, Bool.and_eq_true] at hf
  cases i with
  | zero => simp at hx; subst hx; exact Qaa y _ hf.1 (h 0 y rfl)
  | succ i => exact Q4d xs hf.2 (fun i => g (i + 1)) (fun i x hx => h (i + 1) x (by simpa using hx)) i x (by simpa using hx)
end

section
variable {P : Program} {Gl : Nat → Option (List PV)}
theorem Q93 {f : Nat} {args : List AV} {pargs : List PV} {r : PV} {H : List AObj} {Q : AV → List AObj → Prop} (hp : Xl P Gl f pargs r) (hf : FrzL (fun _ => True) H args pargs) (hr : Gy r = true) (hq : Q (.p r) H) : Yl P Gl f args H Q := by
 refine ⟨hp.1, fun θ w cargs ha hH hG => ?_⟩
 obtain ⟨a1, a2⟩ := Q3t (S := fun c => ¬ θ.bad c) hH (fun c h => h.1) (fun a o l _ ho hl hθ hb => hH.good a o l ho hl hθ hb) hf ha
 refine (hp.2 θ.bad w cargs hH.badlt a1 a2 (Q3q hG (fun c _ hf => hf.1))).mono ?_
 rintro e w' ⟨cr, rfl, q1, q2⟩
 obtain ⟨h1, h2⟩ := Q29 hH q2
 exact ⟨_, cr, H, θ, rfl, hq, .p _ _ (Qaa r cr hr q1), h1, h2⟩
end

theorem Qa8 {θ : Th} {w : World} : ∀ (R : List Nat) {H : List AObj}, Hp θ H w → Hp θ (Vi (R.map fun a => (a, .dead)) H) w ∧ EvoS θ H w θ (Vi (R.map fun a => (a, .dead)) H) w ∧
  (∀ a ∈ R, a < H.length → (Vi (R.map fun a => (a, .dead)) H)[a]? = some .dead) ∧ (∀ (a : Nat) (o : AObj), (Vi (R.map fun a => (a, .dead)) H)[a]? = some o → o.live = true → H[a]? = some o)
 | [], H, h => ⟨h, .refl _ _ _, fun a ha => by simp at ha, fun a o ha _ => ha⟩
 | b :: R, H, h => by
  have Qm : Hp θ (H.set b .dead) w ∧ EvoS θ H w θ (H.set b .dead) w := by
   cases hb : H[b]? with
   | none =>
    have : H.set b .dead = H := by
     apply List.set_eq_of_length_le; exact List.getElem?_eq_none_iff.1 hb
    rw [this]; exact ⟨h, .refl _ _ _⟩
   | some o =>
    by_cases ho : o.live = true
    ·obtain ⟨k1, k2⟩ := Q6b h hb ho
     exact ⟨k1, k2, by simp, fun _ _ => rfl⟩
    ·have ho : o = .dead := by cases o <;> simp [AObj.live] at ho; rfl
     subst ho
     have hlt := (List.getElem?_eq_some_iff.1 hb).1
     have : H.set b .dead = H := by
      apply List.ext_getElem? 
      intro i
      by_cases hi : b = i
      ·subst hi; rw [List.getElem?_set_self hlt, hb]
      ·rw [List.getElem?_set_ne hi]
     rw [this]; exact ⟨h, .refl _ _ _⟩
  obtain ⟨s1, s2⟩ := Qm
  obtain ⟨k1, k2, k3, k4⟩ := Qa8 R s1
  have keep : ∀ (L : List Nat) (G : List AObj) (a : Nat), G[a]? = some .dead → (Vi (L.map fun a => (a, AObj.dead)) G)[a]? = some .dead := by
   intro L
   induction L with
   | nil => intro G a ha; exact ha
   | cons c L ih =>
    intro G a ha
    refine ih (G.set c .dead) a ?_
    by_cases hc : c = a
    ·subst hc; rw [List.getElem?_set_self (List.getElem?_eq_some_iff.1 ha).1]
    ·rw [List.getElem?_set_ne hc]; exact ha
  refine ⟨k1, s2.trans k2, fun a ha hlt => ?_, fun a o ha ho => ?_⟩
  ·rcases List.mem_cons.1 ha with rfl | ha
   ·exact keep R (H.set a .dead) a (by rw [List.getElem?_set_self hlt])
   ·exact k3 a ha (by simpa using hlt)
  ·have h1 := k4 a o ha ho
   by_cases hb : b = a
   ·subst hb
    rw [List.getElem?_set] at h1
    simp at h1
    obtain ⟨_, rfl⟩ := h1
    simp [AObj.live] at ho
   ·rwa [List.getElem?_set_ne hb] at h1
theorem Qet {P : Program} {Gl : Nat → Option (List PV)} {f : Nat} {args : List AV} {pargs : List PV} {r : PV} {H : List AObj} {Q : AV → List AObj → Prop} (R : List Nat) (hp : Xl P Gl f pargs r) (hf : FrzL (fun a => a ∈ R) H args pargs)
  (hR : ∀ a ∈ R, a < H.length) (hq : Q (.p r) (Vi (R.map fun a => (a, .dead)) H)) : Yl P Gl f args H Q := by
 refine ⟨hp.1, fun θ w cargs ha hH hG => ?_⟩
 obtain ⟨k1, k2, k3, k4⟩ := Qa8 R hH
 generalize hK : Vi (R.map fun a => (a, AObj.dead)) H = K at k1 k2 k3 k4 hq
 have hfree : ∀ c, Qn θ H c → Qn θ K c := fun c hc => ⟨hc.1, fun a o l h1 h2 h3 => hc.2 a o l (k4 a o h1 h2) h2 h3⟩
 obtain ⟨a1, a2⟩ := Q3t (S := Qn θ K) hH (fun c h => hfree c h) (fun a o l hk ho hl hθ => ⟨hH.good a o l ho hl hθ, fun b ob lb h1 h2 h3 e => by
  have h4 := k4 b ob h1 h2
  by_cases hab : a = b
  ·subst hab
   have := k3 a hk (hR a hk)
   rw [this] at h1; cases h1; simp [AObj.live] at h2
  ·exact hH.dist a b o ob l lb ho h4 hl h2 hθ h3 hab e.symm⟩) hf ha
 have hbad : ∀ c, c < w.heap.size → Qn θ K c → ¬ (c < w.heap.size ∧ ¬ Qn θ K c) := fun c _ h h' => h'.2 h
 have hGK := hG.evo k2.toEvo
 refine (hp.2 (fun c => c < w.heap.size ∧ ¬ Qn θ K c) w cargs (fun c h => h.1) a1 (fun i x hx => (a2 i x hx).mono (fun c _ hfr => ⟨fun h => h.2 hfr, rfl⟩)) (Q3q hGK hbad)).mono ?_
 rintro e w' ⟨cr, rfl, q1, q2⟩
 obtain ⟨h1, h2⟩ := Q29 k1 q2
 refine ⟨_, cr, K, θ, rfl, hq, .p _ _ (q1.mono (fun c hc hn => ⟨?_, rfl⟩)), h1, k2.trans h2⟩
 by_cases hlt : c < w.heap.size
 ·exact Classical.byContradiction fun hfr => hn ⟨hlt, hfr⟩
 ·refine ⟨fun hb => hlt (k1.badlt c hb), fun a o l ha hl hθ => ?_⟩
  have := (k1.obj a o l ha hθ).lt hl
  omega
theorem Qca {P : Program} {Gl : Nat → Option (List PV)} {f : Nat} {args : List AV} {pargs : List PV} {r : PV} {H : List AObj} {k : AV → List AObj → List Nat → List Nat → Prop} (R : List Nat) (hp : Xl P Gl f pargs r) (hf : FrzL (fun a => a ∈ R) H args pargs)
  (hR : ∀ a ∈ R, a < H.length) (hk : k (.p r) (Vi (R.map fun a => (a, .dead)) H) R R) : Wa P Gl f args H k := by
 refine ⟨R, R.map fun a => (a, .dead), .p r, fun s hs => ?_, fun H2 hH2 => ?_, ?_⟩
 rotate_left 2
 ·have e : (R.map fun a => (a, AObj.dead)).map (·.1) = R := by rw [List.map_map]; exact List.map_id' R
  rw [e]; exact hk
 ·obtain ⟨a, ha, rfl⟩ := List.mem_map.1 hs; exact hR a ha
 ·refine Qet R hp (hf.K (fun a o h1 h2 => ⟨h1, hH2 a h1 o h2⟩)) (fun a ha => ?_) ⟨rfl, rfl⟩
  have h1 := hR a ha
  have : H2[a]? = some H[a] := hH2 a ha _ (List.getElem?_eq_getElem h1)
  exact (List.getElem?_eq_some_iff.1 this).1
def Qhi : Nat := 40
def Q73 (H : List AObj) (vs : List AV) : Option (List PV) := Qe2 (Qcr Qhi H) vs
def Q0t (H : List AObj) (vs : List AV) : List Nat := vs.flatMap (Vl Qhi H)
theorem J9 {H : List AObj} (vs : List AV) (xs : List PV) (h : Q73 H vs = some xs) : FrzL (fun a => a ∈ Q0t H vs) H vs xs := Vx (fun v x h => Q20 Qhi v x h) vs xs h
end
end Go.Av
