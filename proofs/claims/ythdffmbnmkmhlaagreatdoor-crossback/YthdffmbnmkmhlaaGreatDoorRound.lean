/- Part of the proof of CrossBack: for every input the law returns true; no condition. -/
import Derived.Test.YthdffmbnmkmhlaaGreatDoorAvJoin
import Derived.Test.YthdffmbnmkmhlaaGreatDoorAvClosed
import Derived.Test.YthdffmbnmkmhlaaGreatDoorAvAbb
namespace Go.Av
noncomputable section
section
variable {P : Program} {Gl : Nat → Option (List PV)}
def Qei (P : Program) (Gl : Nat → Option (List PV)) (b : CC) (n : Nat) (tm : List AV) (H : List AObj) (Q : CExit → List AV → List AObj → Prop) : Prop :=
 ∀ code, Vk P code b = true → ∀ θ0 H0 w0, GlobOK Gl θ0 H0 w0 → ∀ θ a w, EvoS θ0 H0 w0 θ H w → TmOk θ (Qp θ H) w tm a → Hp θ H w → Code.rounds P code (Z20 θ0 H0 w0 Q) n a w
theorem rdI {b : CC} (n : Nat) {tm : List AV} {H : List AObj} {Q : CExit → List AV → List AObj → Prop} (h : Qei P Gl b n tm H Q) : Q9a P Gl b tm H Q :=
 fun code hk θ a w hT hH hG => wp_loop_rounds n (h code hk θ H w hG θ a w (.refl _ _ _) hT hH)
def Zld (K : List AV → List AObj → Prop) (Q : CExit → List AV → List AObj → Prop) : CExit → List AV → List AObj → Prop
 | .normal, tm, H => K tm H
 | .exit i, tm, H => Q (.exit i) tm H
 | .ret, tm, H => Q .ret tm H
theorem rdP {b : CC} {n : Nat} {tm : List AV} {H : List AObj} {Q : CExit → List AV → List AObj → Prop} (h : ev (EP P Gl) b tm H (Zld (fun tm H => Qei P Gl b n tm H Q) Q)) : Qei P Gl b (n + 1) tm H Q := by
 intro code hk θ0 H0 w0 hG0 θ a w hE hT hH;rw [rounds_succ];refine wp_mono (Q9g code b hk tm H _ h θ a w hT hH (hG0.evo hE.toEvo)) ?_
 rintro e a' w' ⟨ce, tm', H', θ', h1, h2, h3, h4, h5⟩
 cases ce <;> cases e <;> simp only [Qdo] at h1
 ·exact h2 code hk θ0 H0 w0 hG0 θ' a' w' (hE.trans h5) h3 h4
 ·subst h1; exact ⟨.exit _, tm', H', θ', rfl, h2, h3, h4, hE.trans h5⟩
 exact ⟨.ret, tm', H', θ', trivial, h2, h3, h4, hE.trans h5⟩
theorem rdJ {R : Type} {x : Option R} {r : R} {b : CC} {n : Nat} {tm : List AV} {H : List AObj} {Q : CExit → List AV → List AObj → Prop} (T : List AV)
  (h1 : ev (EP P Gl) b tm H (Qwq H.length (fun _ : Unit => T) (fun _ => H) (fun _ => x = some r) Q)) (h2 : x = some r → Qei P Gl b n T H Q) : Qei P Gl b (n + 1) tm H Q := by
 intro code hk θ0 H0 w0 hG0 θ a w hE hT hH;rw [rounds_succ];refine wp_mono (Q9g code b hk tm H _ h1 θ a w hT hH (hG0.evo hE.toEvo)) ?_
 rintro e a' w' ⟨ce, tm', H', θ', q1, q2, q3, q4, q5⟩
 cases ce <;> cases e <;> simp only [Qdo] at q1
 ·obtain ⟨s', j1, ρ, j3⟩ := q2;obtain ⟨p1, p2, p3⟩ := Qow j3 q3 q4;exact h2 j1 code hk θ0 H0 w0 hG0 _ a' w' (hE.trans (Qdj j3 q4 q5 hH (Lk _))) p1 p2
 ·subst q1; exact ⟨.exit _, tm', H', θ', rfl, q2, q3, q4, hE.trans q5⟩
 exact ⟨.ret, tm', H', θ', trivial, q2, q3, q4, hE.trans q5⟩
end
end
end Go.Av
namespace Go.Av
noncomputable section
section
variable {P : Program} {Gl : Nat → Option (List PV)} {R T : Type}
def Z27 (c : T → PV) (tab : List (Int × T)) : List (PV × PV) := tab.map fun q => (.int .i64 q.1, c q.2)
def Qcn : List (Int × T) → Int → Option T
 | [], _ => none
 | (k, v) :: r, x => bif x == k then some v else Qcn r x
def optC (o : Option T) (f : T → Option R) (z : Option R) : Option R := match o with
 | some v => f v
 | none => z
theorem Qnq {ks : List Nat} {xs ys : List AV} {b : Bool} {K : Bool → Prop} (h : X5 ks xs ys = some b) (hk : K b) : Q90 (EP P Gl) K ks xs ys := by
 rw [Qhe, h]; exact hk
theorem Z4z {x : PV} {K : Option PV → Prop} (h : K none) : Qhj (EP P Gl) x [] K := by
 unfold Qhj; rw [Qjl]; exact h
theorem Qsp {x c : Int} {v : PV} {r : List (PV × PV)} {K : Option PV → Prop} (h1 : (x == c) = true → K (some v)) (h2 : (x == c) = false → Qhj (EP P Gl) (.int .i64 x) r K) :
  Qhj (EP P Gl) (.int .i64 x) ((.int .i64 c, v) :: r) K := by
 unfold Qhj at h2 ⊢;rw [Qh0];have e : G5 (.int .i64 x) (.int .i64 c) = some (x == c) := rfl;rw [e]
 cases hb : x == c with
 | true => exact h1 hb
 | false => exact h2 hb
theorem Qp3 {c : T → PV} {x : Int} : ∀ (tab : List (Int × T)) {K : Option PV → Prop}, K ((Qcn tab x).map c) → Qhj (EP P Gl) (.int .i64 x) (Z27 c tab) K
 | [], K, h => Z4z h
 | (k, v) :: r, K, h => Qsp (fun e => by simpa [Qcn, e] using h) (fun e => Qp3 r (by simpa [Qcn, e] using h))
theorem Qyo {tab : List (Int × T)} {x : Int} {c : T → PV} {f : T → Option R} {z : Option R} {r : R} {K : Option PV → Prop} (h : optC (Qcn tab x) f z = some r) (h1 : ∀ v, Qcn tab x = some v → f v = some r → K (some (c v)))
  (h2 : Qcn tab x = none → z = some r → K none) : Qhj (EP P Gl) (.int .i64 x) (Z27 c tab) K := by
 refine Qp3 tab ?_
 cases hl : Qcn tab x with
 | none => rw [hl] at h; exact h2 hl h
 | some v => rw [hl] at h; exact h1 v hl h
end
theorem Z1p {R : List Nat} {H : List AObj} (h : (R.all fun a => Nat.blt a H.length) = true) : ∀ a ∈ R, a < H.length := fun a ha => by
 have := Lq.1 h a ha;simpa [Nat.blt_eq] using this
theorem Q6e {P : Program} {Gl : Nat → Option (List PV)} {f : Nat} {args : List AV} {pargs : List PV} {r : PV} {H : List AObj} {k : AV → List AObj → List Nat → List Nat → Prop} (hp : Q2j P Gl f pargs r) (R : List Nat) (hf : FrzL (fun a => a ∈ R) H args pargs)
  (hR : (R.all fun a => Nat.blt a H.length) = true) (hk : k (.p r) (Q27 (R.map fun a => (a, .dead)) H) R R) : Jm P Gl f args H k := Qhh R hp hf (Z1p hR) hk
end
end Go.Av
