/- The law. Part of a proof of a given statement: for every input the law returns true and the arguments read as before; no condition beyond the given row. -/
import Derived.Test.YtmiobindnojbaaaGreatDoorChks
import Derived.Test.YtmiobindnojbaaaGreatDoorAvClosed4
import Derived.Test.YtmiobindnojbaaaGreatDoorSeat1
namespace Go.Av
noncomputable section
open Go.Proofs
set_option maxRecDepth 1000000
noncomputable def Qla (f : Nat) : Option CFunc := (Qjx[f]?).join
def AllOk (P : Program) : Nat → List (Option CFunc) → Prop
 | _, [] => True
 | n, none :: r => AllOk P (n + 1) r
 | n, some c :: r => Q0 P n c = true ∧ AllOk P (n + 1) r
theorem okE {P : Program} {n : Nat} : AllOk P n [] := trivial
theorem okN {P : Program} {n : Nat} {r : List (Option CFunc)} (h : AllOk P (n + 1) r) : AllOk P n (none :: r) := h
theorem okS {P : Program} {n : Nat} {c : CFunc} {r : List (Option CFunc)} (hc : Q0 P n c = true) (h : AllOk P (n + 1) r) : AllOk P n (some c :: r) := ⟨hc, h⟩
theorem AllOk.spec {P : Program} : ∀ (l : List (Option CFunc)) (n : Nat), AllOk P n l → ∀ i c, l[i]? = some (some c) → Q0 P (n + i) c = true
 | [], n, h, i, c, hi => by simp at hi
 | none :: r, n, h, i, c, hi => by
  cases i with
  | zero => simp at hi
  | succ i => have := AllOk.spec r (n + 1) h i c (by simpa using hi); rwa [show n + (i + 1) = n + 1 + i by omega]
 | some d :: r, n, h, i, c, hi => by
  cases i with
  | zero => simp at hi; subst hi; exact h.1
  | succ i => have := AllOk.spec r (n + 1) h.2 i c (by simpa using hi); rwa [show n + (i + 1) = n + 1 + i by omega]
theorem all1 : AllOk Tryz.prog 0 Qjx := (okN (okN (okN (okS k3 (okS k4 (okS k5 (okS k6 (okS k7 (okS k8 (okS k9 (okS k10 (okS k11 (okS k12 (okS k13 (okS k14 (okS k15 (okS k16 (okS k17 (okS k18 (okS k19 (okS k20 (okS k21 (okS k22 (okS k23 (okS k24 (okS k25 (okS k26 (okS k27 (okS k28 (okS k29 (okS k30 (okS k31 (okS k32 (okS k33 (okS k34 (okS k35 (okS k36 (okS k37 (okS k38 (okS k39 (okS k40 (okS k41 (okS k42 (okS k43 (okS k44 (okS k45 (okS k46 (okS k47 (okS k48 (okS k49 (okS k50 (okS k51 (okS k52 (okS k53 (okS k54 (okS k55 (okS k56 (okS k57 (okS k58 (okS k59 (okS k60 (okS k61 (okS k62 (okS k63 (okS k64 (okS k65 (okS k66 (okS k67 (okS k68 (okS k69 (okS k70 (okS k71 (okS k72 (okS k73 (okS k74 (okS k75 (okS k76 (okS k77 (okS k78 (okS k79 (okS k80 (okS k81 (okS k82 (okS k83 (okS k84 (okS k85 (okS k86 (okS k87 (okS k88 (okS k89 (okS k90 (okS k91 (okN (okS k93 (okS k94 (okS k95 (okS k96 (okS k97 (okS k98 (okS k99 (okS Qm8 (okS Qoj (okS Qpm (okS Qmi (okS Qpw (okS Qpl (okS Qov (okS Qpi (okS Qoa (okS Qoh (okS Qo2 (okS Qp4 (okS Qos (okS Qod (okN (okS Qp7 (okS Qor (okS Qpc (okS Qpp (okS Qoo (okS Qot (okS Qog (okS Qp1 (okS Qo1 (okS Qpt (okS Qoc (okS Qo4 (okS Qpj (okS Qpf (okS Qpq (okS Qok (okS Qpa (okS Qpk (okS Qoe (okS Qox (okS Qop (okS Qom (okS Qp9 (okS Qpv (okS Qow (okS Qoy (okS Qo8 (okS Qo0 (okS Qp5 (okS Qpe (okS Qp6 (okS Qpd (okS Qpr (okS Qpg (okS Qob (okS Qo7 (okS Qof (okS Qph (okS Qoi (okS Qoz (okN (okS Qp8 (okS Qpx (okS Qon (okS Qou okE))))))))))))))))))))))))))))))))))))))))))))))))))))))))))))))))))))))))))))))))))))))))))))))))))))))))))))))))))))))))))))))))))))))))))))))))))))))))))))))))
theorem Qhy (f : Nat) (cf : CFunc) (h : Qla f = some cf) : Q0 Tryz.prog f cf = true := by
 unfold Qla at h
 have : Qjx[f]? = some (some cf) := by
  cases hc : Qjx[f]? with
  | none => rw [hc] at h; cases h
  | some o => rw [hc] at h; simp at h; rw [h]
 simpa using all1.spec Qjx 0 f cf this
noncomputable def kn1 : Know2 := ⟨Qla, fun _ _ => none, fun _ _ _ => none⟩
theorem Qb9 : KnowOk2 Tryz.prog G1 kn1 := ⟨Qhy, fun _ _ _ h => (by cases h), fun _ _ _ _ h => (by cases h)⟩
end
end Go.Av
