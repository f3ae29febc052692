/- Part of the proof of FrommqttOwn: for every input the law returns true; no condition. -/
import Derived.Test.YtpmcdjbdijjgkaaGreatDoorAvJoin
import Derived.Test.YtpmcdjbdijjgkaaGreatDoorAvClosed
import Derived.Test.YtpmcdjbdijjgkaaGreatDoorAvAbb
namespace Go.Av
noncomputable section
section
variable {P : Program} {Gl : Nat → Option (List PV)}
end
end
end Go.Av
namespace Go.Av
noncomputable section
section
variable {P : Program} {Gl : Nat → Option (List PV)} {R T : Type}
def Qpv (c : T → PV) (tab : List (Int × T)) : List (PV × PV) := tab.map fun q => (.int .i64 q.1, c q.2)
def Q4t : List (Int × T) → Int → Option T
 | [], _ => none
 | (k, v) :: r, x => bif x == k then some v else Q4t r x
def optC (o : Option T) (f : T → Option R) (z : Option R) : Option R := match o with
 | some v => f v
 | none => z
theorem Qmv {ks : List Nat} {xs ys : List AV} {b : Bool} {K : Bool → Prop} (h : Zl ks xs ys = some b) (hk : K b) : Q42 (EP P Gl) K ks xs ys := by
 rw [Q9q, h]; exact hk
theorem Qoo {x : PV} {K : Option PV → Prop} (h : K none) : Q7z (EP P Gl) x [] K := by
 unfold Q7z; rw [Qca]; exact h
theorem Qd3 {x c : Int} {v : PV} {r : List (PV × PV)} {K : Option PV → Prop} (h1 : (x == c) = true → K (some v)) (h2 : (x == c) = false → Q7z (EP P Gl) (.int .i64 x) r K) :
  Q7z (EP P Gl) (.int .i64 x) ((.int .i64 c, v) :: r) K := by
 unfold Q7z at h2 ⊢;rw [Qah];have e : V3 (.int .i64 x) (.int .i64 c) = some (x == c) := rfl;rw [e]
 cases hb : x == c with
 | true => exact h1 hb
 | false => exact h2 hb
theorem Q01 {x c : Int} {v : PV} {r : List (PV × PV)} {a b : Option R} {s : R} {K : Option PV → Prop} (h : cond (x == c) a b = some s) (h1 : (x == c) = true → a = some s → K (some v)) (h2 : (x == c) = false → b = some s → Q7z (EP P Gl) (.int .i64 x) r K) :
  Q7z (EP P Gl) (.int .i64 x) ((.int .i64 c, v) :: r) K :=
 Qd3 (fun e => h1 e (by rw [e] at h; exact h)) (fun e => h2 e (by rw [e] at h; exact h))
theorem Qf6 {c : T → PV} {x : Int} : ∀ (tab : List (Int × T)) {K : Option PV → Prop}, K ((Q4t tab x).map c) → Q7z (EP P Gl) (.int .i64 x) (Qpv c tab) K
 | [], K, h => Qoo h
 | (k, v) :: r, K, h => Qd3 (fun e => by simpa [Q4t, e] using h) (fun e => Qf6 r (by simpa [Q4t, e] using h))
theorem Qok {tab : List (Int × T)} {x : Int} {c : T → PV} {f : T → Option R} {z : Option R} {r : R} {K : Option PV → Prop} (h : optC (Q4t tab x) f z = some r) (h1 : ∀ v, Q4t tab x = some v → f v = some r → K (some (c v)))
  (h2 : Q4t tab x = none → z = some r → K none) : Q7z (EP P Gl) (.int .i64 x) (Qpv c tab) K := by
 refine Qf6 tab ?_
 cases hl : Q4t tab x with
 | none => rw [hl] at h; exact h2 hl h
 | some v => rw [hl] at h; exact h1 v hl h
end
theorem Qf0 {T : Type} {c : T → List PV} {e : Nat} (hc : ∀ v, (c v).length = e) {K : Nat → Prop} {H : List AObj} {a n : Nat} {l : List T} (ho : H[a]? = some (.cells (Y4 c l))) (hk : K a) (hn : n ≤ l.length) :
  Frz K H (.slice e a 0 n) (.slice e (Q6 c (l.take n))) := by
 have hlt : (l.take n).length = n := by rw [Mc]; omega
 have hl : (Q6 c (l.take n)).flatten.length = n * e := by
  have := Gu hc (l.take n);rw [Q2u, Ly, hlt] at this; exact this
 have hcs : ((Y4 c l).drop 0).take (n * e) = Y4 c (l.take n) := by
  have h1 : (Y4 c (l.take n)).length = n * e := by rw [Gu hc, hlt]
  rw [Nr, Qi5 l n, Mw (by omega), Mq (by omega)]
 refine .slice e a 0 n (Y4 c l) (Q6 c (l.take n)) hk ho (by rw [Qa, hlt]) (fun r hr => ?_) ?_ (fun i v x hv hx => ?_)
 ·simp only [Q6, My] at hr;obtain ⟨y, _, rfl⟩ := hr;exact hc y
 ·rw [hcs, Gu hc, hlt, hl]
 rw [hcs, Q2u, Li, hx] at hv;cases hv;exact .p _
end
end Go.Av
