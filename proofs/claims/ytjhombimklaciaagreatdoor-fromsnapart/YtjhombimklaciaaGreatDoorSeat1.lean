/- Part of the proof of FromsnApart: for every input the law returns true; no condition. -/
import Derived.Test.YtjhombimklaciaaGreatDoorAvBridges
import Derived.Test.YtjhombimklaciaaGreatDoorCards
import Derived.Test.YtjhombimklaciaaGreatDoorTie
import Derived.KernelRfl
import Derived.Test.YtjhombimklaciaaGreatDoorAvOwn
import Derived.Test.YtjhombimklaciaaGreatDoorChks
import Derived.Test.YtjhombimklaciaaGreatDoorAvClosed4
import Derived.Test.YtjhombimklaciaaGreatDoorAvJoin
import Derived.Test.YtjhombimklaciaaGreatDoorAvClosed
import Derived.Test.YtjhombimklaciaaGreatDoorAvAbb
import Derived.Test.YtjhombimklaciaaGreatDoorLiftTy
namespace Go.Av
noncomputable section
open Go.Proofs Go.Proofs.YtjhombimklaciaaGreatDoor
def G1 : Nat → Option (List PV)
 | 1 => some (Go.Pinned.utf8FirstZ.map fun (n : Nat) => .int .u8 (n : Int))
 | 2 => some ([.int .u8 128, .int .u8 191, .int .u8 160, .int .u8 191, .int .u8 128, .int .u8 159, .int .u8 144, .int .u8 191, .int .u8 128, .int .u8 143, .int .u8 0, .int .u8 0, .int .u8 0, .int .u8 0, .int .u8 0, .int .u8 0, .int .u8 0, .int .u8 0, .int .u8 0, .int .u8 0, .int .u8 0, .int .u8 0, .int .u8 0, .int .u8 0, .int .u8 0, .int .u8 0, .int .u8 0, .int .u8 0, .int .u8 0, .int .u8 0, .int .u8 0, .int .u8 0])
 | _ => none
def T1 : List TypeId := [3, 4, 5, 9, 22, 23, 25, 27, 29, 38, 62, 197, 199, 200]
def L1 : List (String × DataW Unit) := [("unicode/utf8.acceptRanges", Rows.laid_unicode_utf8_acceptRanges), ("unicode/utf8.first", Rows.laid_unicode_utf8_first)]
theorem Qox : Q77 Tryz.prog T1 = true := by kernel_rfl
theorem Qum : laidOutB Tryz.prog = true := by kernel_rfl
set_option maxRecDepth 100000 in
theorem Qic : Q5u Rows.laid_unicode_utf8_first = some (Go.Pinned.utf8FirstZ.map fun (n : Nat) => .int .u8 (n : Int)) := by kernel_rfl
theorem Quo (W : World) (h : laidMetH Tryz.prog L1 W) : GlobOK G1 ⟨fun _ => none, fun _ => False⟩ [] W := by
 refine Qe0 (laid := L1) Qox (fun g cs hg => ?_) h
 match g, hg with
 | 1, hg => cases hg; exact ⟨"unicode/utf8.first", Rows.laid_unicode_utf8_first, 197, .tail _ (.head _), by kernel_rfl, by kernel_rfl, by decide, Qic⟩
 | 2, hg => cases hg; exact ⟨"unicode/utf8.acceptRanges", Rows.laid_unicode_utf8_acceptRanges, 200, .head _, by kernel_rfl, by kernel_rfl, by decide, by kernel_rfl⟩
 | 0, hg => cases hg
 | n + 3, hg => cases hg
theorem Qx9 : ownKnob Tryz.prog.godebug = none := by kernel_rfl
def Qsi (vs : Array Value) : Obj → Obj
 | .cells _ t frozen => .cells vs t frozen
 | o => o
def Qsk : Array Value := #[.int .u8 128, .int .u8 191, .int .u8 160, .int .u8 191, .int .u8 128, .int .u8 159, .int .u8 144, .int .u8 191, .int .u8 128, .int .u8 143, .int .u8 0, .int .u8 0, .int .u8 0, .int .u8 0, .int .u8 0, .int .u8 0, .int .u8 0, .int .u8 0, .int .u8 0, .int .u8 0, .int .u8 0, .int .u8 0, .int .u8 0, .int .u8 0, .int .u8 0, .int .u8 0, .int .u8 0, .int .u8 0, .int .u8 0, .int .u8 0, .int .u8 0, .int .u8 0]
def Qrv : Array Value := (Go.Pinned.utf8FirstZ.map fun (n : Nat) => Value.int .u8 (n : Int)).toArray
noncomputable def Q9r (os : Os) : World :=
 { World.holding Tryz.prog os ⟨#[], #[], []⟩ with heap := (((World.holding Tryz.prog os ⟨#[], #[], []⟩).heap.modify 1 (Qsi Qrv)).modify 2 (Qsi Qsk)) }
end
end Go.Av
namespace Go.Av
noncomputable section
def gtab0 : List Int := Go.Pinned.utf8FirstZ.map fun (n : Nat) => (n : Int)
theorem Qk7 : 256 = gtab0.length := by kernel_rfl
theorem Qnu : Go.Pinned.utf8FirstZ.map (fun (n : Nat) => PV.int .u8 (n : Int)) = (Qd (cI .u8) gtab0).flatten := by kernel_rfl
@[reducible] def cUU (p : Int × Int) : List PV := [.int .u8 p.1, .int .u8 p.2]
def gtab1 : List (Int × Int) := [(128, 191), (160, 191), (128, 159), (144, 191), (128, 143), (0, 0), (0, 0), (0, 0), (0, 0), (0, 0), (0, 0), (0, 0), (0, 0), (0, 0), (0, 0), (0, 0)]
theorem Qm6 : 16 = gtab1.length := by kernel_rfl
theorem Qnt : [PV.int .u8 128, PV.int .u8 191, PV.int .u8 160, PV.int .u8 191, PV.int .u8 128, PV.int .u8 159, PV.int .u8 144, PV.int .u8 191, PV.int .u8 128, PV.int .u8 143, PV.int .u8 0, PV.int .u8 0, PV.int .u8 0, PV.int .u8 0, PV.int .u8 0, PV.int .u8 0, PV.int .u8 0, PV.int .u8 0, PV.int .u8 0, PV.int .u8 0, PV.int .u8 0, PV.int .u8 0, PV.int .u8 0, PV.int .u8 0, PV.int .u8 0, PV.int .u8 0, PV.int .u8 0, PV.int .u8 0, PV.int .u8 0, PV.int .u8 0, PV.int .u8 0, PV.int .u8 0] = (Qd cUU gtab1).flatten := by kernel_rfl
end
end Go.Av
namespace Go.Av
noncomputable section
open Go.Proofs
set_option maxRecDepth 1000000
noncomputable def Qu5 (f : Nat) : Option CFunc := (Qt7[f]?).join
def AllOk (P : Program) : Nat → List (Option CFunc) → Prop
 | _, [] => True
 | n, none :: r => AllOk P (n + 1) r
 | n, some c :: r => Gf P n c = true ∧ AllOk P (n + 1) r
theorem okE {P : Program} {n : Nat} : AllOk P n [] := trivial
theorem okN {P : Program} {n : Nat} {r : List (Option CFunc)} (h : AllOk P (n + 1) r) : AllOk P n (none :: r) := h
theorem okS {P : Program} {n : Nat} {c : CFunc} {r : List (Option CFunc)} (hc : Gf P n c = true) (h : AllOk P (n + 1) r) : AllOk P n (some c :: r) := ⟨hc, h⟩
theorem AllOk.spec {P : Program} : ∀ (l : List (Option CFunc)) (n : Nat), AllOk P n l → ∀ i c, l[i]? = some (some c) → Gf P (n + i) c = true
 | [], n, h, i, c, hi => by simp at hi
 | none :: r, n, h, i, c, hi => by
  cases i with
  | zero => simp at hi
  | succ i => have := AllOk.spec r (n + 1) h i c (by simpa using hi); rwa [show n + (i + 1) = n + 1 + i by omega]
 | some d :: r, n, h, i, c, hi => by
  cases i with
  | zero => simp at hi; subst hi; exact h.1
  | succ i => have := AllOk.spec r (n + 1) h.2 i c (by simpa using hi); rwa [show n + (i + 1) = n + 1 + i by omega]
theorem all1 : AllOk Tryz.prog 0 Qt7 := (okN (okN (okN (okS k3 (okS k4 (okS k5 (okS k6 (okS k7 (okS k8 (okS k9 (okS k10 (okS k11 (okS k12 (okS k13 (okS k14 (okS k15 (okS k16 (okS k17 (okS k18 (okS k19 (okS k20 (okS k21 (okS k22 (okS k23 (okS k24 (okS k25 (okS k26 (okS k27 (okS k28 (okS k29 (okS k30 (okS k31 (okS k32 (okS k33 (okS k34 (okS k35 (okS k36 (okS k37 (okS k38 (okS k39 (okS k40 (okS k41 (okS k42 (okS k43 (okS k44 (okS k45 (okS k46 (okS k47 (okS k48 (okS k49 (okS k50 (okS k51 (okS k52 (okS k53 (okS k54 (okS k55 (okS k56 (okS k57 (okS k58 (okS k59 (okS k60 (okS k61 (okS k62 (okS k63 (okS k64 (okS k65 (okS k66 (okS k67 (okS k68 (okS k69 (okS k70 (okS k71 (okS k72 (okS k73 (okS k74 (okS k75 (okS k76 (okS k77 (okS k78 (okS k79 (okS k80 (okS k81 (okS k82 (okN (okS k84 (okS k85 (okS k86 (okS k87 (okS k88 (okS k89 (okS k90 (okS k91 (okS k92 (okS k93 (okS k94 (okS k95 (okS k96 (okS k97 (okS k98 (okS k99 (okS Qwn (okS Qw8 (okS Qw6 (okS Qvl (okS Qw1 (okS Qvb (okS Qvy (okN (okS Qo6 (okS Qu0 (okS Qw0 (okS Qxd (okS Qtn (okS Qq4 (okS Qwm (okS Qws (okS Qmy (okS Qjo (okS Qgw (okS Qq9 (okS Qwi (okS Qv5 (okS Qxl (okS Qv0 (okS Qw5 (okS Qut (okS Quu (okS Qvk (okN (okS Qvo (okS Qvz (okS Qx4 (okS Qxg (okN (okN (okN (okN (okN (okN (okN (okN (okN (okN (okN (okN (okN (okN (okN (okN (okN (okS Qxb (okN (okS Qx7 (okS Qxk (okS Qxu (okS Qxp (okN (okN (okS Qv7 (okN (okS Qw2 (okS Que (okS Qtw (okS Qtr (okN (okS Qvm (okS Qxn okE)))))))))))))))))))))))))))))))))))))))))))))))))))))))))))))))))))))))))))))))))))))))))))))))))))))))))))))))))))))))))))))))))))))))))))))))))))))))))))))))))))))))
theorem Qqt (f : Nat) (cf : CFunc) (h : Qu5 f = some cf) : Gf Tryz.prog f cf = true := by
 unfold Qu5 at h
 have : Qt7[f]? = some (some cf) := by
  cases hc : Qt7[f]? with
  | none => rw [hc] at h; cases h
  | some o => rw [hc] at h; simp at h; rw [h]
 simpa using all1.spec Qt7 0 f cf this
noncomputable def kn1 : Know2 := ⟨Qu5, fun _ _ => none, fun _ _ _ => none⟩
theorem Qso : KnowOk2 Tryz.prog G1 kn1 := ⟨Qqt, fun _ _ _ h => (by cases h), fun _ _ _ _ h => (by cases h)⟩
end
end Go.Av
namespace Go.Av
noncomputable section
section
variable {P : Program} {Gl : Nat → Option (List PV)}
end
end
end Go.Av
namespace Go.Av
noncomputable section
section
variable {P : Program} {Gl : Nat → Option (List PV)} {R T : Type}
theorem Qtf {ks : List Nat} {xs ys : List AV} {b : Bool} {K : Bool → Prop} (h : Y7 ks xs ys = some b) (hk : K b) : Q51 (EP P Gl) K ks xs ys := by
 rw [Qap, h]; exact hk
end
theorem Qhy {T : Type} {c : T → List PV} {e : Nat} (hc : ∀ v, (c v).length = e) {K : Nat → Prop} {H : List AObj} {a n : Nat} {l : List T} (ho : H[a]? = some (.cells (Zz c l))) (hk : K a) (hn : n ≤ l.length) :
  Frz K H (.slice e a 0 n) (.slice e (Qd c (l.take n))) := by
 have hlt : (l.take n).length = n := by rw [Mh]; omega
 have hl : (Qd c (l.take n)).flatten.length = n * e := by
  have := Q0b hc (l.take n);rw [Q3b, Lx, hlt] at this; exact this
 have hcs : ((Zz c l).drop 0).take (n * e) = Zz c (l.take n) := by
  have h1 : (Zz c (l.take n)).length = n * e := by rw [Q0b hc, hlt]
  rw [Nq, Qkq l n, Ni (by omega), Na (by omega)]
 refine .slice e a 0 n (Zz c l) (Qd c (l.take n)) hk ho (by rw [Qh, hlt]) (fun r hr => ?_) ?_ (fun i v x hv hx => ?_)
 ·simp only [Qd, Mw] at hr;obtain ⟨y, _, rfl⟩ := hr;exact hc y
 ·rw [hcs, Q0b hc, hlt, hl]
 rw [hcs, Q3b, Ll, hx] at hv;cases hv;exact .p _
end
end Go.Av
namespace Go.Av
noncomputable section
section
variable {P : Program} {Gl : Nat → Option (List PV)}
theorem Qfl {f e : Nat} {H : List AObj} {Q : AV → List AObj → Prop} (h1 : Qm P Gl f [.p .nilSlice] H Q) (h2 : Qm P Gl f [.p .sliceS] H Q) : Qm P Gl f [.p (.slice e [])] H Q := by
 refine ⟨h1.1, fun θ w cargs ha hH hG => ?_⟩;have hs : cargs.size = 1 := ha.1;have hr := ha.2 0 _ rfl
 have key : cargs.getD 0 Qp = .slice none 0 0 ∨ ∃ a c, cargs.getD 0 Qp = .slice (some a) 0 c := by
  generalize cargs.getD 0 Qp = v at hr
  cases hr with
  | p _ _ hp =>
   cases hp with
   | sliceE _ a c hn =>
    cases a with
    | none => rw [hn rfl]; exact .inl rfl
    | some a => exact .inr ⟨a, c, rfl⟩
   | slice _ _ blk off cap val he hr hcap hS hc hone hv => exact .inr ⟨_, cap, rfl⟩
 rcases key with e | ⟨a, c, e⟩
 ·refine h1.2 θ w cargs ⟨hs, fun i u hu => ?_⟩ hH hG
  cases i with
  | zero => simp at hu; subst hu; rw [e]; exact .p _ _ .nilSlice
  | succ i => simp at hu
 refine h2.2 θ w cargs ⟨hs, fun i u hu => ?_⟩ hH hG
 cases i with
 | zero => simp at hu; subst hu; rw [e]; exact .p _ _ (.sliceS a c)
 | succ i => simp at hu
end
end
end Go.Av
namespace Go.Av
noncomputable section
open Go.Proofs
set_option maxRecDepth 100000
set_option maxHeartbeats 4000000
attribute [local irreducible] Xt Qm Q8b Q6k Qpa Qqk Qfx
def Q2d (_N : Nat) (s : List Uh) : Option (List Uh) := cond (Nat.beq s.length 0) (some []) (cond (Nat.ble ((0 + s.length + 4096) * 24) 17592186044416) (some s) none)
theorem Q8u {N} {s : List Uh} {r} (h : Q2d N s = some r) : GC Tryz.prog G1 22 (.p (.slice 2 (Qd Uh.cells s)) :: []) [] (.slice 2 0 0 r.length) (.cells (Zz Uh.cells r) :: []) := by
 cases s with
 | nil =>
  obtain rfl := Qj h;refine Qfl (e := 2) ?_ ?_
  ·refine Wr k22 (Lt rfl) ?_;show Exists _;exact ⟨rho [0], (rS <| rN), (hV (Lt rfl) <| hN), rfl, rfl, (roE rfl <| roN)⟩
  refine Wr k22 (Lt rfl) ?_;show Exists _;exact ⟨(fun i => i), (rE rfl <| rN), (hE rfl <| hN), rfl, rfl, (roE rfl <| roN)⟩
 | cons x l =>
  obtain ⟨h1, h⟩ := Q36 h;obtain rfl := Qj h;generalize hs : x :: l = s at h1
  have hne : (!(Qd Uh.cells s).isEmpty) = true := by subst hs; rfl
  have hb : Nat.beq (Qd Uh.cells s).length 0 = false := by subst hs; rfl
  clear hs;refine Wr k22 (Lt rfl) ?_;refine Jv hne ?_;refine Qjx (c := Uh.cells) (vs := s) rfl ?_;refine ifF hb ?_;refine Jv (Wb (c := Uh.cells) (e := 2) (l := ([] : List Uh)) (fun _ => rfl) rfl (by rw [Qh]; exact h1)) ?_;show Exists _;exact ⟨rho [1], (rL (by simp [Qd]) rfl <| rN), (hO rfl <| hN), rfl, rfl, (roE (Q0e _ _ _) <| roN)⟩
end
end Go.Av
