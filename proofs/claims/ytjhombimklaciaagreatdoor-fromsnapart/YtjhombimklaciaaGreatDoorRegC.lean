/- Part of the proof of FromsnApart: for every input the law returns true; no condition. -/
import Derived.Test.YtjhombimklaciaaGreatDoorRegS
import Derived.Test.YtjhombimklaciaaGreatDoorAvAbb
namespace Go.Av
noncomputable section
theorem Qm1 {ρ : Nat → Nat} {H H0 H1 : List AObj} : ∀ (r : List AObj) (i : Nat), (∀ j o, r[j]? = some o → o.live = true → Qte ρ H H0 H1 (i + j) o) → Q89 ρ H H0 H1 i r
 | [], _, _ => trivial
 | o :: r, i, h => by
  have t : Q89 ρ H H0 H1 (i + 1) r := Qm1 r (i + 1) fun j o' hj hl => by have := h (j + 1) o' (by simpa using hj) hl; rwa [show i + (j + 1) = i + 1 + j by omega] at this
  cases o with
  | dead => exact t
  | cells cs => exact ⟨h 0 _ rfl rfl, t⟩
  | map es => exact ⟨h 0 _ rfl rfl, t⟩
  | strIter s p => exact ⟨h 0 _ rfl rfl, t⟩
  | ext R a => exact ⟨h 0 _ rfl rfl, t⟩
theorem Qd3 (n : Nat) : ∀ args : List PV, refsLt.refsLts n (args.map .p) = true
 | [] => rfl
 | _ :: l => Qd3 n l
section
variable {P : Program} {Gl : Nat → Option (List PV)} {f : Nat} {args : List PV} {r : PV} {R R' : Reg}
theorem Qie (h : GC P Gl f (.ptr 0 0 :: args.map .p) [.dead, .ext R 0] (.p r) [.dead, .dead, .ext R' 0]) : Q1h P Gl f R args r R' := by
 intro H b a hb vs hvs;have hbl := (La.1 hb).1;refine Qfc h (fun i => if i = 0 then a else b) (H := H) ⟨by simp [hvs.1], fun i v u hv hu => ?_⟩ ⟨.inl ⟨.ext R a, hb, .inl rfl⟩, trivial⟩ (by simp [Qkc, List.range, List.range.loop, AObj.live]) (Qd3 2 args) rfl (H.set b .dead ++ [.ext R' a]) (by simp) (Qm1 _ 0 fun j o hj hl => ?_) (.p r) rfl ⟨rfl, rfl⟩
 ·cases i with
  | zero => cases hv; cases hu; exact .same (.ptr 0 0)
  | succ i =>
   simp only [Bw, Ll] at hu
   cases hx : args[i]? with
   | none => rw [hx] at hu; cases hu
   | some x => rw [hx] at hu; cases hu; exact .frz v x (hvs.2 i v x hv hx)
 rw [Me]
 by_cases hj1 : j < H.length
 ·rw [Lk (by simpa using hj1)] at hj
  by_cases hjb : j = b
  ·subst hjb; rw [Lm hbl] at hj; cases hj; cases hl
  rw [Lj (fun e => hjb e.symm)] at hj;refine .inl ⟨?_, hj⟩
  have : (b == j) = false := by simpa using fun e : b = j => hjb e.symm
  show kdB _ _ _ = true;simp [kdB, List.range, List.range.loop, AObj.live, bne, this]
 rw [Lo (by simpa using hj1)] at hj
 have hl1 : (H.set b .dead).length = H.length := by simp
 rw [hl1] at hj
 have h0 : j - H.length = 0 := by
  by_cases h0 : j - H.length = 0
  ·exact h0
  rw [Mx (by simp; omega)] at hj; cases hj
 rw [h0] at hj;cases hj;refine .inr ⟨2, .ext R' 0, rfl, ?_, fun h => by simp at h, rfl⟩;show H.length + (2 - 2) = j;omega
theorem Qca (h : Qm P Gl f (.ptr 0 0 :: args.map .p) [.dead, .ext R 0] (fun v H => ∃ b, H[b]? = some (.ext R' 0) ∧ Frz (fun a => a ≠ b) H v r)) : Q1h P Gl f R args r R' := by
 refine Qie (Qds (Lt rfl) (Vu h fun v H' ⟨b, hb, hf⟩ => ⟨fun i => if i = 2 then b else i, ?_⟩));refine ⟨⟨rfl, fun i v' u hv hu => ?_⟩, ⟨.inl ⟨.ext R' 0, hb, .inl rfl⟩, trivial⟩, by simp [Qkc, List.range, List.range.loop, AObj.live], rfl, rfl⟩
 cases i with
 | succ i => simp at hv
 | zero =>
  cases hv; cases hu;refine .frz v r (Q94 (fun a o h1 h2 => ⟨?_, h2⟩) hf)
  have : (b == a) = false := by simpa using fun e : b = a => h1 e.symm
  simp [KD, kdB, List.range, List.range.loop, AObj.live, bne, this]
theorem Qi3 {cf : CFunc} (hk : Gf P f cf = true) (h : Q0o (EP P Gl) cf (.ptr 0 0 :: args.map .p) [.dead, .ext R 0] (fun v H => ∃ b, H[b]? = some (.ext R' 0) ∧ Frz (fun a => a ≠ b) H v r)) : Q1h P Gl f R args r R' :=
 Qca (Q8 hk h)
theorem Qni (h : Q1h P Gl f R args r R') {H : List AObj} {b a : Nat} (hb : H[b]? = some (.ext R a)) {vs : List AV} (hvs : FrzL (fun _ => False) H vs args) {Q : AV → List AObj → Prop} (hq : Q (.p r) (H.set b .dead ++ [.ext R' a])) : Qm P Gl f (.ptr a 0 :: vs) H Q :=
 Vu (h H b a hb vs hvs) fun v H' ⟨e1, e2⟩ => by subst e1; subst e2; exact hq
theorem cRg {α β : Type} {x : Option α} {F : α → Option β} {r : β} {g : α → PV} {g2 : α → Reg} (h : x.bind F = some r) (hp : ∀ {v}, x = some v → Q1h P Gl f R args (g v) (g2 v)) {H : List AObj} {b a : Nat} (hb : H[b]? = some (.ext R a)) {vs : List AV} (hvs : FrzL (fun _ => False) H vs args)
  {Q : AV → List AObj → Prop} (hq : ∀ v, F v = some r → Q (.p (g v)) (H.set b .dead ++ [.ext (g2 v) a])) : Qm P Gl f (.ptr a 0 :: vs) H Q := by
 obtain ⟨v, h1, h2⟩ := Ux h;exact Qni (hp h1) hb hvs (hq v h2)
theorem Qh2 (h : Qgn P Gl f) {H : List AObj} (n : Nat) (hn : H.length = n) {Q : AV → List AObj → Prop} (hq : Q (.ptr n 0) (H ++ [.dead, .ext [] n])) : Qm P Gl f [] H Q :=
 Vu (h H) fun v H' ⟨e1, e2⟩ => by subst hn; subst e1; subst e2; exact hq
theorem Qs3 {β : Type} {b : Bool} {x y : Option β} {r : β} {G : Prop} (h : cond b x y = some r) (h1 : b = true → x = some r → G) (h2 : b = false → y = some r → G) : G := by
 cases b with
 | true => exact h1 rfl h
 | false => exact h2 rfl h
theorem Qbf {T : Type} {c : T → List PV} {e : Nat} (hc : ∀ v, (c v).length = e) {l : List T} {i : Int} {v : T} (hv : idx l i = some v) {off n : Nat} {b : Bool} {k : AV → Prop} (hn : off + n ≤ e) {j : Nat} (hj : j + 2 = i.toNat * e + off)
  (h : Xo (EP P Gl) b ((((c v).drop off).take n).map AV.p) k) : @List.rec AV (fun _ => Prop) (Q3i (EP P Gl) n [] (fun cs => Xo (EP P Gl) b cs k)) (fun _ vs _ => @List.rec AV (fun _ => Prop) (Q3i (EP P Gl) n [] (fun cs => Xo (EP P Gl) b cs k)) (fun _ vs _ => Q4u j vs (fun cs => Q3i (EP P Gl) n cs (fun cs => Xo (EP P Gl) b cs k))) vs) (Zz c l) :=
 Q3n hc hv hn hj h
end
end
end Go.Av
