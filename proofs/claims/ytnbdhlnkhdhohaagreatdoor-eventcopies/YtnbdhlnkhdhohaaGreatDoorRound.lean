/- Part of the proof of EventCopies: for every input the law returns true; no condition. -/
import Derived.Test.YtnbdhlnkhdhohaaGreatDoorAvJoin
import Derived.Test.YtnbdhlnkhdhohaaGreatDoorAvClosed
import Derived.Test.YtnbdhlnkhdhohaaGreatDoorAvAbb
namespace Go.Av
noncomputable section
section
variable {P : Program} {Gl : Nat → Option (List PV)}
def Qfl (P : Program) (Gl : Nat → Option (List PV)) (b : CC) (n : Nat) (tm : List AV) (H : List AObj) (Q : CExit → List AV → List AObj → Prop) : Prop :=
 ∀ code, V0 P code b = true → ∀ θ0 H0 w0, GlobOK Gl θ0 H0 w0 → ∀ θ a w, EvoS θ0 H0 w0 θ H w → TmOk θ (Qr θ H) w tm a → Hp θ H w → Code.rounds P code (Z1k θ0 H0 w0 Q) n a w
theorem rdI {b : CC} (n : Nat) {tm : List AV} {H : List AObj} {Q : CExit → List AV → List AObj → Prop} (h : Qfl P Gl b n tm H Q) : Q89 P Gl b tm H Q :=
 fun code hk θ a w hT hH hG => wp_loop_rounds n (h code hk θ H w hG θ a w (.refl _ _ _) hT hH)
def Zj3 (K : List AV → List AObj → Prop) (Q : CExit → List AV → List AObj → Prop) : CExit → List AV → List AObj → Prop
 | .normal, tm, H => K tm H
 | .exit i, tm, H => Q (.exit i) tm H
 | .ret, tm, H => Q .ret tm H
theorem rdP {b : CC} {n : Nat} {tm : List AV} {H : List AObj} {Q : CExit → List AV → List AObj → Prop} (h : ev (EP P Gl) b tm H (Zj3 (fun tm H => Qfl P Gl b n tm H Q) Q)) : Qfl P Gl b (n + 1) tm H Q := by
 intro code hk θ0 H0 w0 hG0 θ a w hE hT hH;rw [rounds_succ];refine wp_mono (Qaf code b hk tm H _ h θ a w hT hH (hG0.evo hE.toEvo)) ?_
 rintro e a' w' ⟨ce, tm', H', θ', h1, h2, h3, h4, h5⟩
 cases ce <;> cases e <;> simp only [Qg1] at h1
 ·exact h2 code hk θ0 H0 w0 hG0 θ' a' w' (hE.trans h5) h3 h4
 ·subst h1; exact ⟨.exit _, tm', H', θ', rfl, h2, h3, h4, hE.trans h5⟩
 exact ⟨.ret, tm', H', θ', trivial, h2, h3, h4, hE.trans h5⟩
theorem rdJ {R : Type} {x : Option R} {r : R} {b : CC} {n : Nat} {tm : List AV} {H : List AObj} {Q : CExit → List AV → List AObj → Prop} (T : List AV)
  (h1 : ev (EP P Gl) b tm H (Qwa H.length (fun _ : Unit => T) (fun _ => H) (fun _ => x = some r) Q)) (h2 : x = some r → Qfl P Gl b n T H Q) : Qfl P Gl b (n + 1) tm H Q := by
 intro code hk θ0 H0 w0 hG0 θ a w hE hT hH;rw [rounds_succ];refine wp_mono (Qaf code b hk tm H _ h1 θ a w hT hH (hG0.evo hE.toEvo)) ?_
 rintro e a' w' ⟨ce, tm', H', θ', q1, q2, q3, q4, q5⟩
 cases ce <;> cases e <;> simp only [Qg1] at q1
 ·obtain ⟨s', j1, ρ, j3⟩ := q2;obtain ⟨p1, p2, p3⟩ := Qq5 j3 q3 q4;exact h2 j1 code hk θ0 H0 w0 hG0 _ a' w' (hE.trans (Qf1 j3 q4 q5 hH (Lp _))) p1 p2
 ·subst q1; exact ⟨.exit _, tm', H', θ', rfl, q2, q3, q4, hE.trans q5⟩
 exact ⟨.ret, tm', H', θ', trivial, q2, q3, q4, hE.trans q5⟩
end
end
end Go.Av
namespace Go.Av
noncomputable section
section
variable {P : Program} {Gl : Nat → Option (List PV)} {R T : Type}
def Z2r (c : T → PV) (tab : List (Int × T)) : List (PV × PV) := tab.map fun q => (.int .i64 q.1, c q.2)
def Q7c : List (Int × T) → Int → Option T
 | [], _ => none
 | (k, v) :: r, x => bif x == k then some v else Q7c r x
def optC (o : Option T) (f : T → Option R) (z : Option R) : Option R := match o with
 | some v => f v
 | none => z
theorem Qtg {ks : List Nat} {xs ys : List AV} {b : Bool} {K : Bool → Prop} (h : Yx ks xs ys = some b) (hk : K b) : Qa7 (EP P Gl) K ks xs ys := by
 rw [Qia, h]; exact hk
theorem Z3l {x : PV} {K : Option PV → Prop} (h : K none) : Qfg (EP P Gl) x [] K := by
 unfold Qfg; rw [Ql3]; exact h
theorem Qls {x c : Int} {v : PV} {r : List (PV × PV)} {K : Option PV → Prop} (h1 : (x == c) = true → K (some v)) (h2 : (x == c) = false → Qfg (EP P Gl) (.int .i64 x) r K) :
  Qfg (EP P Gl) (.int .i64 x) ((.int .i64 c, v) :: r) K := by
 unfold Qfg at h2 ⊢;rw [Qhm];have e : Gd (.int .i64 x) (.int .i64 c) = some (x == c) := rfl;rw [e]
 cases hb : x == c with
 | true => exact h1 hb
 | false => exact h2 hb
theorem Q5d {x c : Int} {v : PV} {r : List (PV × PV)} {a b : Option R} {s : R} {K : Option PV → Prop} (h : cond (x == c) a b = some s) (h1 : (x == c) = true → a = some s → K (some v)) (h2 : (x == c) = false → b = some s → Qfg (EP P Gl) (.int .i64 x) r K) :
  Qfg (EP P Gl) (.int .i64 x) ((.int .i64 c, v) :: r) K :=
 Qls (fun e => h1 e (by rw [e] at h; exact h)) (fun e => h2 e (by rw [e] at h; exact h))
theorem Qof {c : T → PV} {x : Int} : ∀ (tab : List (Int × T)) {K : Option PV → Prop}, K ((Q7c tab x).map c) → Qfg (EP P Gl) (.int .i64 x) (Z2r c tab) K
 | [], K, h => Z3l h
 | (k, v) :: r, K, h => Qls (fun e => by simpa [Q7c, e] using h) (fun e => Qof r (by simpa [Q7c, e] using h))
theorem Qun {tab : List (Int × T)} {x : Int} {c : T → PV} {f : T → Option R} {z : Option R} {r : R} {K : Option PV → Prop} (h : optC (Q7c tab x) f z = some r) (h1 : ∀ v, Q7c tab x = some v → f v = some r → K (some (c v)))
  (h2 : Q7c tab x = none → z = some r → K none) : Qfg (EP P Gl) (.int .i64 x) (Z2r c tab) K := by
 refine Qof tab ?_
 cases hl : Q7c tab x with
 | none => rw [hl] at h; exact h2 hl h
 | some v => rw [hl] at h; exact h1 v hl h
end
theorem Qps {T : Type} {c : T → List PV} {e : Nat} (hc : ∀ v, (c v).length = e) {K : Nat → Prop} {H : List AObj} {a n : Nat} {l : List T} (ho : H[a]? = some (.cells (Qu c l))) (hk : K a) (hn : n ≤ l.length) :
  Frz K H (.slice e a 0 n) (.slice e (Q8 c (l.take n))) := by
 have hlt : (l.take n).length = n := by rw [Lz]; omega
 have hl : (Q8 c (l.take n)).flatten.length = n * e := by
  have := Q4v hc (l.take n);rw [Q8w, Ls, hlt] at this; exact this
 have hcs : ((Qu c l).drop 0).take (n * e) = Qu c (l.take n) := by
  have h1 : (Qu c (l.take n)).length = n * e := by rw [Q4v hc, hlt]
  rw [Nj, Qu0 l n, Nh (by omega), Mo (by omega)]
 refine .slice e a 0 n (Qu c l) (Q8 c (l.take n)) hk ho (by rw [Q5, hlt]) (fun r hr => ?_) ?_ (fun i v x hv hx => ?_)
 ·simp only [Q8, Nb] at hr;obtain ⟨y, _, rfl⟩ := hr;exact hc y
 ·rw [hcs, Q4v hc, hlt, hl]
 rw [hcs, Q8w, Ln, hx] at hv;cases hv;exact .p _
end
end Go.Av
