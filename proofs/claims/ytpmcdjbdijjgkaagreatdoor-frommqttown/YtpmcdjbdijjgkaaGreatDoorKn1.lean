/- Part of the proof of FrommqttOwn: for every input the law returns true; no condition. -/
import Derived.Test.YtpmcdjbdijjgkaaGreatDoorChks
import Derived.Test.YtpmcdjbdijjgkaaGreatDoorAvClosed4
import Derived.Test.YtpmcdjbdijjgkaaGreatDoorSeat1
namespace Go.Av
noncomputable section
open Go.Proofs
set_option maxRecDepth 1000000
noncomputable def Qqr (f : Nat) : Option CFunc := (Qoz[f]?).join
def AllOk (P : Program) : Nat → List (Option CFunc) → Prop
 | _, [] => True
 | n, none :: r => AllOk P (n + 1) r
 | n, some c :: r => Gh P n c = true ∧ AllOk P (n + 1) r
theorem okE {P : Program} {n : Nat} : AllOk P n [] := trivial
theorem okN {P : Program} {n : Nat} {r : List (Option CFunc)} (h : AllOk P (n + 1) r) : AllOk P n (none :: r) := h
theorem okS {P : Program} {n : Nat} {c : CFunc} {r : List (Option CFunc)} (hc : Gh P n c = true) (h : AllOk P (n + 1) r) : AllOk P n (some c :: r) := ⟨hc, h⟩
theorem AllOk.spec {P : Program} : ∀ (l : List (Option CFunc)) (n : Nat), AllOk P n l → ∀ i c, l[i]? = some (some c) → Gh P (n + i) c = true
 | [], n, h, i, c, hi => by simp at hi
 | none :: r, n, h, i, c, hi => by
  cases i with
  | zero => simp at hi
  | succ i => have := AllOk.spec r (n + 1) h i c (by simpa using hi); rwa [show n + (i + 1) = n + 1 + i by omega]
 | some d :: r, n, h, i, c, hi => by
  cases i with
  | zero => simp at hi; subst hi; exact h.1
  | succ i => have := AllOk.spec r (n + 1) h.2 i c (by simpa using hi); rwa [show n + (i + 1) = n + 1 + i by omega]
theorem all1 : AllOk Tryz.prog 0 Qoz := (okN (okN (okN (okS k3 (okS k4 (okS k5 (okS k6 (okS k7 (okS k8 (okS k9 (okS k10 (okS k11 (okS k12 (okS k13 (okS k14 (okS k15 (okS k16 (okS k17 (okS k18 (okS k19 (okS k20 (okS k21 (okS k22 (okS k23 (okS k24 (okS k25 (okS k26 (okS k27 (okS k28 (okS k29 (okS k30 (okS k31 (okS k32 (okS k33 (okS k34 (okS k35 (okS k36 (okS k37 (okS k38 (okS k39 (okS k40 (okS k41 (okS k42 (okS k43 (okS k44 (okS k45 (okS k46 (okS k47 (okS k48 (okS k49 (okS k50 (okS k51 (okS k52 (okS k53 (okS k54 (okS k55 (okS k56 (okS k57 (okS k58 (okS k59 (okS k60 (okS k61 (okS k62 (okS k63 (okS k64 (okS k65 (okS k66 (okS k67 (okS k68 (okS k69 (okS k70 (okS k71 (okS k72 (okS k73 (okS k74 (okS k75 (okS k76 (okS k77 (okS k78 (okS k79 (okS k80 (okS k81 (okS k82 (okS k83 (okS k84 (okS k85 (okS k86 (okS k87 (okS k88 (okS k89 (okS k90 (okS k91 (okS k92 (okS k93 (okS k94 (okS k95 (okS k96 (okS k97 (okS k98 (okS k99 (okS Qu5 (okS Qun (okS Qwt (okS Qtx (okS Qq0 (okS Qw1 (okS Qrw (okS Qs4 (okS Qxr (okS Quw (okS Qub (okS Qvy (okS Qrl (okS Qtd (okS Qxh (okS Qxn (okS Qxt (okS Qw6 (okS Qxi (okS Qt2 (okS Qs9 (okS Qu2 (okS Qua (okS Qqh (okS Qv1 (okS Qqe (okS Qru (okS Qqc (okS Qug (okS Qq4 (okS Qrj (okS Qtb (okS Qx1 (okS Qx5 (okS Qxw (okS Quk (okS Qs6 (okS Qsf (okS Qw2 (okS Qxg (okS Qxl (okS Qxa (okS Qwk (okS Qvg (okS Qvm (okS Qux (okS Quh (okS Qrx (okS Qw5 (okS Quy (okS Qvl (okS Qrn (okS Qvw (okS Qsr (okS Qsq (okS Qwf (okS Qss (okS Qv2 (okS Qsl (okS Qx3 (okS Qwm (okS Qxe (okS Qvi (okS Qv5 (okS Qwy (okS Qv7 (okS Qu0 (okS Qxj (okS Qwn (okS Qxq (okS Qwp (okS Qvb (okS Qsn (okS Qvn (okS Qrq (okS Qtf (okS Qu6 (okS Qs7 (okS Qr5 (okS Qta (okS Qve (okS Qwq (okS Qxu (okS Qxo (okS Qxm (okS Qwu (okS Qx0 (okS Qx8 (okS Qt5 (okS Qvj (okS Qw9 (okS Qvt (okS Qtk (okN (okN (okS Qvk (okS Qwj (okS Qs5 (okS Qxb (okS Qx4 (okS Qwr (okS Qti (okS Qrs (okS Qx7 (okN (okS Qtm (okS Qvr (okS Qvo (okS Qsm (okS Qqu (okS Qtj (okS Qt9 (okS Qqz (okN (okS Qwv (okN (okS Qv9 (okS Qxd okE))))))))))))))))))))))))))))))))))))))))))))))))))))))))))))))))))))))))))))))))))))))))))))))))))))))))))))))))))))))))))))))))))))))))))))))))))))))))))))))))))))))))))))))))))))))))))))))))))))))))))))))))))))))))))
theorem Qmz (f : Nat) (cf : CFunc) (h : Qqr f = some cf) : Gh Tryz.prog f cf = true := by
 unfold Qqr at h
 have : Qoz[f]? = some (some cf) := by
  cases hc : Qoz[f]? with
  | none => rw [hc] at h; cases h
  | some o => rw [hc] at h; simp at h; rw [h]
 simpa using all1.spec Qoz 0 f cf this
noncomputable def kn1 : Know2 := ⟨Qqr, fun _ _ => none, fun _ _ _ => none⟩
theorem Q31 : KnowOk2 Tryz.prog G1 kn1 := ⟨Qmz, fun _ _ _ h => (by cases h), fun _ _ _ _ h => (by cases h)⟩
end
end Go.Av
