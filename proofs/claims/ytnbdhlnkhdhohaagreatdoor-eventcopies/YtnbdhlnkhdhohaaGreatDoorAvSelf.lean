/- Part of the proof of EventCopies: for every input the law returns true; no condition. -/
import Derived.Test.YtnbdhlnkhdhohaaGreatDoorAvMeth
import Derived.Test.YtnbdhlnkhdhohaaGreatDoorAvLook
import Derived.Test.YtnbdhlnkhdhohaaGreatDoorAvDraws
import Derived.Test.YtnbdhlnkhdhohaaGreatDoorAvClosed4
namespace Go.Av
noncomputable section
section
variable {P : Program} {Gl : Nat → Option (List PV)}
@[reducible] def clo (f a : Nat) : AV := .func (.func f) [] [.ptr a 0]
def Qqt (P : Program) (Gl : Nat → Option (List PV)) (f : Nat) (args : List PV) (r : PV) : Prop :=
 ∀ (H : List AObj) (a : Nat), H[a]? = some (.cells [clo f a]) → ∀ vs, FrzL (fun _ => False) H vs args →
  Xj P Gl f (vs ++ [.ptr a 0]) H (fun v H' => v = .p r ∧ H' = H)
theorem Qsp {θ θ' : Th} {S S' : Nat → Prop} {w : World} {f a b : Nat} {l : Loc} {v : Value} (h : RelV θ S w (clo f a) v) (ha : θ a = some l) (hb : θ' b = some l) : RelV θ' S' w (clo f b) v := by
 cases h with
 | func _ _ _ A B q1 q2 q3 q4 =>
  refine .func _ _ _ A B q1 q2 (fun i x hx => by simp at hx) (fun i x hx => ?_)
  cases i with
  | succ i => simp at hx
  | zero =>
   simp at hx;subst hx;have := q4 0 (.ptr a 0) rfl;generalize B.getD 0 Qx = cv at this ⊢
   cases this with
   | ptr _ _ l' hl =>
    rw [ha] at hl; cases hl;exact .ptr b 0 l hb
theorem Qjk {f : Nat} {args : List PV} {r : PV}
  (hc : Xj P Gl f (args.map .p ++ [.ptr 0 0]) [.cells [clo f 0]] (fun v H => ∃ rest, H = .cells [clo f 0] :: rest ∧ Frz (fun a => a ≠ 0) H v r)) : Qqt P Gl f args r := by
 intro H a ha vs hvs;refine ⟨hc.1, fun θ w cargs hargs hH hG => ?_⟩;have hp0 := hargs.2 vs.length (.ptr a 0) (by simp)
 obtain ⟨l, hl, hcv⟩ : ∃ l, θ a = some l ∧ cargs.getD vs.length Qx = .pointer (some ⟨l.blk, l.off + 0, none⟩) := by
  generalize cargs.getD vs.length Qx = cv at hp0
  cases hp0 with
  | ptr _ _ l hl => exact ⟨l, hl, rfl⟩
 have hro := hH.obj a _ l ha hl;have hlt : l.blk < w.heap.size := hro.lt rfl
 let bad0 : Nat → Prop := fun c => c < w.heap.size ∧ ¬ Qr θ H c ∧ c ≠ l.blk
 let θ0 : Th := ⟨fun i => if i = 0 then some l else none, bad0⟩
 let H0 : List AObj := [.cells [clo f 0]]
 have hθ0 : θ0 0 = some l := by simp [θ0]
 have hfree : ∀ c, Qr θ H c → Qr θ0 H0 c := by
  intro c hf;refine ⟨fun hb => hb.2.1 hf, fun i o l' hi hol hθ => ?_⟩
  cases i with
  | succ i => simp [H0] at hi
  | zero =>
   simp only [θ0, if_true, Lc] at hθ;subst hθ;exact hf.2 a _ l ha rfl hl
 have hmp : ∀ x v, RelP (Qr θ H) w x v → RelP (Qr θ0 H0) w x v := fun x v h => h.mono (fun c _ hf => ⟨hfree c hf, rfl⟩)
 have hH0 : Hp θ0 H0 w := by
  refine ⟨fun i o l' hi hθ => ?_, fun i j oi oj li lj hi hj _ _ _ _ hne => ?_, fun i hi => ?_, fun i o l' hi _ hθ => ?_, fun c hc => hc.1⟩
  ·cases i with
   | succ i => simp [H0] at hi
   | zero =>
    simp only [H0, Cy, Lc] at hi;subst hi;simp only [θ0, if_true, Lc] at hθ;subst hθ;obtain ⟨C, t, fz, q1, q2, q3, q4, q5⟩ := hro;refine ⟨C, t, fz, q1, q2, q3, q4, fun j v hj => ?_⟩
    cases j with
    | succ j => simp at hj
    | zero =>
     simp at hj;subst hj;obtain ⟨r1, r2⟩ := q5 0 _ rfl;exact ⟨Qsp r1 hl hθ0, r2⟩
  ·have hi' := (Lb.1 hi).1;have hj' := (Lb.1 hj).1;simp [H0] at hi' hj';omega
  ·simp only [H0, Bi] at hi;simp only [θ0];rw [if_neg (by omega)]
  cases i with
  | succ i => simp [H0] at hi
  | zero =>
   simp only [θ0, if_true, Lc] at hθ;subst hθ;exact fun hb => hb.2.2 rfl
 have hG0 : GlobOK Gl θ0 H0 w := by
  intro g cs hg;obtain ⟨g1, g2, vs', g3, g4, g5⟩ := hG g cs hg;exact ⟨g1, hfree g g2, vs', g3, g4, fun j x hx => ⟨(g5 j x hx).1, hmp _ _ (g5 j x hx).2⟩⟩
 have hargs0 : Q6y θ0 (Qr θ0 H0) w (args.map .p ++ [.ptr 0 0]) cargs := by
  refine ⟨by rw [hargs.1]; simp [hvs.1], fun i v hv => ?_⟩
  by_cases hi : i < args.length
  ·rw [Lr (by simpa using hi), Ln, Ld hi] at hv;cases hv
   have hlt : i < vs.length := by rw [hvs.1]; exact hi
   have h1 := hargs.2 i vs[i] (by rw [Lr hlt]; exact Ld hlt);have h2 := Q8g (S := Qr θ H) hH (fun c h => h) (fun a o l h => h.elim) (hvs.2 i vs[i] _ (Ld hlt) (Ld hi)) h1;exact .p _ _ (hmp _ _ h2)
  rw [Lx (by simpa using Nat.le_of_not_lt hi), Ls] at hv
  have hi2 : i = args.length := by
   have := (Lb.1 hv).1;simp at this; omega
  subst hi2;rw [Cq] at hv;simp at hv;subst hv;rw [← hvs.1, hcv];exact .ptr 0 0 l hθ0
 refine (hc.2 θ0 w cargs hargs0 hH0 hG0).mono ?_
 rintro e w' ⟨v, cr, H', θ', rfl, ⟨rest, rfl, hv⟩, q2, q3, q4⟩
 have hbe : θ'.bad = bad0 := q4.bad
 have hl' : θ' 0 = some l := by rw [q4.old 0 (by simp)]; exact hθ0
 let S : Nat → Prop := fun c => ¬ bad0 c ∧ c ≠ l.blk
 have hS1 : ∀ c, Qr θ' (.cells [clo f 0] :: rest) c → S c := fun c hf => ⟨by rw [← hbe]; exact hf.1, fun e => hf.2 0 _ l rfl rfl hl' e.symm⟩
 have hS2 : ∀ i o l', i ≠ 0 → (AObj.cells [clo f 0] :: rest)[i]? = some o → o.live = true → θ' i = some l' → S l'.blk := fun i o l' hi ho hol hθ =>
  ⟨by rw [← hbe]; exact q3.good i o l' ho hol hθ, q3.dist i 0 o _ l' l ho rfl hol rfl hθ hl' hi⟩
 have hsame : ∀ c, c < w.heap.size → c ≠ l.blk → w'.heap[c]? = w.heap[c]? := fun c hc hne => (q4.nl c hc (fun i o l' hi hol hθ e => by
  cases i with
  | succ i => simp at hi
  | zero =>
   simp only [θ0, if_true, Lc] at hθ;subst hθ
   exact hne e.symm)).2
 obtain ⟨g1, g2⟩ := Qq1 (o' := .cells [clo f a]) hH ha rfl hl w' q4.size hsame q4.os q4.tape q4.output
 have hset : H.set a (.cells [clo f a]) = H := by
  apply Mv;intro i
  by_cases hia : i = a
  ·subst hia;rw [Mc (Lb.1 ha).1, ha]
  rw [Lq (fun e => hia e.symm)]
 rw [hset] at g1 g2
 have hSF : ∀ c, S c → Qr θ H c := by
  intro c hc
  by_cases hlt : c < w.heap.size
  ·exact Mb fun hf => hc.1 ⟨hlt, hf, hc.2⟩
  refine ⟨fun hb => hlt (hH.badlt c hb), fun i o l' hi hol hθ e => ?_⟩;have := (hH.obj i o l' hi hθ).lt hol;omega
 obtain ⟨C, t, fz, o1, o2, o3, o4, o5⟩ := q3.obj 0 _ l rfl hl'
 have hHp : Hp θ H w' := by
  refine g1 ⟨C, t, fz, o1, o2, o3, o4, fun j x hj => ?_⟩
  cases j with
  | succ j => simp at hj
  | zero =>
   simp at hj;subst hj;obtain ⟨r1, r2⟩ := o5 0 _ rfl;exact ⟨Qsp r1 hl' hl, r2⟩
 exact ⟨.p r, cr, _, θ, rfl, ⟨rfl, rfl⟩, .p _ _ ((Q8g (S := S) q3 hS1 hS2 hv q2).mono (fun c _ hc => ⟨hSF c hc, rfl⟩)), hHp, ⟨g2, Lp _, fun _ _ => rfl⟩⟩
theorem Qqn {f : Nat} {cf : CFunc} (hk : Q1d P f cf = true) {args : List PV} {r : PV}
  (h : Q63 (EP P Gl) cf (args.map .p ++ [.ptr 0 0]) [.cells [clo f 0]] (fun v H => ∃ rest, H = .cells [clo f 0] :: rest ∧ Frz (fun a => a ≠ 0) H v r)) : Qqt P Gl f args r :=
 Qjk (Qi hk h)
theorem Qf3 {f : Nat} {args : List PV} {r : PV} (hm : Qqt P Gl f args r) {H : List AObj} {a : Nat} {vs all : List AV} (hvs : FrzL (fun _ => False) H vs args) (hall : all = vs ++ [.ptr a 0])
  (ha : H[a]? = some (.cells [clo f a])) {Q : AV → List AObj → Prop} (hq : Q (.p r) H) : Xj P Gl f all H Q := by
 subst hall;exact Q9p (hm H a ha vs hvs) (fun v H' ⟨e1, e2⟩ => by subst e1; subst e2; exact hq)
end
end
end Go.Av
namespace Go.Av
noncomputable section
section
variable {P : Program} {Gl : Nat → Option (List PV)}
theorem Qre {f : Nat} {args : List AV} {pargs : List PV} {r : PV} {H : List AObj} {k : AV → List AObj → List Nat → List Nat → Prop} (hp : Gv P Gl f pargs r) (R : List Nat) (hf : FrzL (fun a => a ∈ R) H args pargs)
  (hr : Q66 r = true) (hk : k (.p r) H R []) : Vn P Gl f args H k :=
 .inl ⟨R, [], .p r, fun s h => (by cases h), fun H2 hH2 => Qck hp ⟨hf.1, fun i v x hv hx => Qfm (fun a o ha ho => ⟨trivial, hH2 a ha o ho⟩) (hf.2 i v x hv hx)⟩ hr ⟨rfl, rfl⟩, hk⟩
end
end
end Go.Av
