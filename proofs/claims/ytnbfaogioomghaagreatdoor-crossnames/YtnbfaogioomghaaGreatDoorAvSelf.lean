/- Part of the proof of CrossNames: for every input the law returns true; no condition. -/
import Derived.Test.YtnbfaogioomghaaGreatDoorAvMeth
namespace Go.Av
noncomputable section
section
variable {P : Program} {Gl : Nat → Option (List PV)}
@[reducible] def clo (f a : Nat) : AV := .func (.func f) [] [.ptr a 0]
def Qaw (P : Program) (Gl : Nat → Option (List PV)) (f : Nat) (args : List PV) (r : PV) : Prop :=
 ∀ (H : List AObj) (a : Nat), H[a]? = some (.cells [clo f a]) → ∀ vs, FrzL (fun _ => False) H vs args →
  Ze P Gl f (vs ++ [.ptr a 0]) H (fun v H' => v = .p r ∧ H' = H)
theorem Qbo {θ θ' : Th} {S S' : Nat → Prop} {w : World} {f a b : Nat} {l : Loc} {v : Value} (h : RelV θ S w (clo f a) v) (ha : θ a = some l) (hb : θ' b = some l) : RelV θ' S' w (clo f b) v := by
 cases h with
 | func _ _ _ A B q1 q2 q3 q4 =>
  refine .func _ _ _ A B q1 q2 (fun i x hx => by simp at hx) (fun i x hx => ?_)
  cases i with
  | succ i => simp at hx
  | zero =>
   simp at hx;subst hx;have := q4 0 (.ptr a 0) rfl;generalize B.getD 0 Qe = cv at this ⊢
   cases this with
   | ptr _ _ l' hl =>
    rw [ha] at hl; cases hl;exact .ptr b 0 l hb
theorem Q4y {f : Nat} {args : List PV} {r : PV}
  (hc : Ze P Gl f (args.map .p ++ [.ptr 0 0]) [.cells [clo f 0]] (fun v H => ∃ rest, H = .cells [clo f 0] :: rest ∧ Frz (fun a => a ≠ 0) H v r)) : Qaw P Gl f args r := by
 intro H a ha vs hvs;refine ⟨hc.1, fun θ w cargs hargs hH hG => ?_⟩;have hp0 := hargs.2 vs.length (.ptr a 0) (by simp)
 obtain ⟨l, hl, hcv⟩ : ∃ l, θ a = some l ∧ cargs.getD vs.length Qe = .pointer (some ⟨l.blk, l.off + 0, none⟩) := by
  generalize cargs.getD vs.length Qe = cv at hp0
  cases hp0 with
  | ptr _ _ l hl => exact ⟨l, hl, rfl⟩
 have hro := hH.obj a _ l ha hl;have hlt : l.blk < w.heap.size := hro.lt rfl _ rfl
 let bad0 : Nat → Prop := fun c => c < w.heap.size ∧ ¬ Q9 θ H c ∧ c ≠ l.blk
 let θ0 : Th := ⟨fun i => if i = 0 then some l else none, bad0⟩
 let H0 : List AObj := [.cells [clo f 0]]
 have hθ0 : θ0 0 = some l := by simp [θ0]
 have hfree : ∀ c, Q9 θ H c → Q9 θ0 H0 c := by
  intro c hf;refine ⟨fun hb => hb.2.1 hf, fun i o l' hi hol hθ => ?_⟩
  cases i with
  | succ i => simp [H0] at hi
  | zero =>
   simp only [θ0, if_true, Lc] at hθ;subst hθ;simp only [H0, Mj, Lc] at hi;subst hi;exact fun e => hf.2 a _ l ha rfl hl e
 have hmp : ∀ x v, RelP (Q9 θ H) w x v → RelP (Q9 θ0 H0) w x v := fun x v h => h.mono (fun c _ hf => ⟨hfree c hf, rfl⟩)
 have hH0 : Hp θ0 H0 w := by
  refine ⟨fun i o l' hi hθ => ?_, fun i j oi oj li lj hi hj _ _ _ _ hne => ?_, fun i hi => ?_, fun i o l' hi hol hθ => ?_, fun c hc => hc.1, fun i R e hi => by cases i <;> simp [H0] at hi⟩
  ·cases i with
   | succ i => simp [H0] at hi
   | zero =>
    simp only [H0, Mj, Lc] at hi;subst hi;simp only [θ0, if_true, Lc] at hθ;subst hθ;obtain ⟨C, t, fz, q1, q2, q3, q4, q5⟩ := hro;refine ⟨C, t, fz, q1, q2, q3, q4, fun j v hj => ?_⟩
    cases j with
    | succ j => simp at hj
    | zero =>
     simp at hj;subst hj;obtain ⟨r1, r2⟩ := q5 0 _ rfl;exact ⟨Qbo r1 hl hθ0, r2⟩
  ·have hi' := (La.1 hi).1;have hj' := (La.1 hj).1;simp [H0] at hi' hj';omega
  ·simp only [H0, List.length_singleton] at hi;simp only [θ0];rw [if_neg (by omega)]
  cases i with
  | succ i => simp [H0] at hi
  | zero =>
   simp only [θ0, if_true, Lc] at hθ;subst hθ;simp only [H0, Mj, Lc] at hi;subst hi;exact fun c hc hb => hb.2.2 (by cases hc; rfl)
 have hG0 : GlobOK Gl θ0 H0 w := by
  intro g cs hg;obtain ⟨g1, g2, vs', g3, g4, g5⟩ := hG g cs hg;exact ⟨g1, hfree g g2, vs', g3, g4, fun j x hx => ⟨(g5 j x hx).1, hmp _ _ (g5 j x hx).2⟩⟩
 have hargs0 : Uh θ0 (Q9 θ0 H0) w (args.map .p ++ [.ptr 0 0]) cargs := by
  refine ⟨by rw [hargs.1]; simp [hvs.1], fun i v hv => ?_⟩
  by_cases hi : i < args.length
  ·rw [Li (by simpa using hi), Lh, Ld hi] at hv;cases hv
   have hlt : i < vs.length := by rw [hvs.1]; exact hi
   have h1 := hargs.2 i vs[i] (by rw [Li hlt]; exact Ld hlt);have h2 := Un (S := Q9 θ H) hH (fun c h => h) (fun a o l h => h.elim) (hvs.2 i vs[i] _ (Ld hlt) (Ld hi)) h1;exact .p _ _ (hmp _ _ h2)
  rw [Ln (by simpa using Nat.le_of_not_lt hi), Me] at hv
  have hi2 : i = args.length := by
   have := (La.1 hv).1;simp at this; omega
  subst hi2;rw [Bs] at hv;simp at hv;subst hv;rw [← hvs.1, hcv];exact .ptr 0 0 l hθ0
 refine (hc.2 θ0 w cargs hargs0 hH0 hG0).mono ?_
 rintro e w' ⟨v, cr, H', θ', rfl, ⟨rest, rfl, hv⟩, q2, q3, q4⟩
 have hbe : θ'.bad = bad0 := q4.bad
 have hl' : θ' 0 = some l := by rw [q4.old 0 (by simp)]; exact hθ0
 let S : Nat → Prop := fun c => ¬ bad0 c ∧ c ≠ l.blk
 have hS1 : ∀ c, Q9 θ' (.cells [clo f 0] :: rest) c → S c := fun c hf => ⟨by rw [← hbe]; exact hf.1, fun e => hf.2 0 _ l rfl rfl hl' e.symm⟩
 have hS2 : ∀ i o l', i ≠ 0 → (AObj.cells [clo f 0] :: rest)[i]? = some o → o.live = true → θ' i = some l' → ∀ c, o.occ l' c → S c := fun i o l' hi ho hol hθ c hc =>
  ⟨by rw [← hbe]; exact q3.good i o l' ho hol hθ c hc, fun e => q3.dist i 0 o _ l' l ho rfl hol rfl hθ hl' hi c hc e.symm⟩
 have hsame : ∀ c, c < w.heap.size → c ≠ l.blk → w'.heap[c]? = w.heap[c]? := fun c hc hne => (q4.nl c hc (fun i o l' hi hol hθ e => by
  cases i with
  | succ i => simp at hi
  | zero =>
   simp only [θ0, if_true, Lc] at hθ;subst hθ;simp only [H0, Mj, Lc] at hi;subst hi
   exact hne (Eq.symm e))).2
 obtain ⟨g1, g2⟩ := Q8n (o' := .cells [clo f a]) hH ha rfl hl w' q4.size hsame q4.os q4.tape q4.output
 have hset : H.set a (.cells [clo f a]) = H := by
  apply Ma;intro i
  by_cases hia : i = a
  ·subst hia;rw [Lk (La.1 ha).1, ha]
  rw [Lg (fun e => hia e.symm)]
 rw [hset] at g1 g2
 have hSF : ∀ c, S c → Q9 θ H c := by
  intro c hc
  by_cases hlt : c < w.heap.size
  ·exact Lo fun hf => hc.1 ⟨hlt, hf, hc.2⟩
  refine ⟨fun hb => hlt (hH.badlt c hb), fun i o l' hi hol hθ e => ?_⟩;have := (hH.obj i o l' hi hθ).lt hol c e;omega
 obtain ⟨C, t, fz, o1, o2, o3, o4, o5⟩ := q3.obj 0 _ l rfl hl'
 have hHp : Hp θ H w' := by
  refine g1 ⟨C, t, fz, o1, o2, o3, o4, fun j x hj => ?_⟩
  cases j with
  | succ j => simp at hj
  | zero =>
   simp at hj;subst hj;obtain ⟨r1, r2⟩ := o5 0 _ rfl;exact ⟨Qbo r1 hl' hl, r2⟩
 exact ⟨.p r, cr, _, θ, rfl, ⟨rfl, rfl⟩, .p _ _ ((Un (S := S) q3 hS1 hS2 hv q2).mono (fun c _ hc => ⟨hSF c hc, rfl⟩)), hHp, ⟨g2, Lj _, fun _ _ => rfl⟩⟩
theorem Qa7 {f : Nat} {cf : CFunc} (hk : Xb P f cf = true) {args : List PV} {r : PV}
  (h : W6 (EP P Gl) cf (args.map .p ++ [.ptr 0 0]) [.cells [clo f 0]] (fun v H => ∃ rest, H = .cells [clo f 0] :: rest ∧ Frz (fun a => a ≠ 0) H v r)) : Qaw P Gl f args r :=
 Q4y (Q10 hk h)
theorem Q37 {f : Nat} {args : List PV} {r : PV} (hm : Qaw P Gl f args r) {H : List AObj} {a : Nat} {vs all : List AV} (hvs : FrzL (fun _ => False) H vs args) (hall : all = vs ++ [.ptr a 0])
  (ha : H[a]? = some (.cells [clo f a])) {Q : AV → List AObj → Prop} (hq : Q (.p r) H) : Ze P Gl f all H Q := by
 subst hall;exact J7 (hm H a ha vs hvs) (fun v H' ⟨e1, e2⟩ => by subst e1; subst e2; exact hq)
end
end
end Go.Av
