/- The law. Part of a proof of a given statement: for every input the law returns true and the arguments read as before; no condition beyond the given row. -/
import Derived.Test.YtmofajpflckpmaaGreatDoorChks
import Derived.Test.YtmofajpflckpmaaGreatDoorAvClosed4
import Derived.Test.YtmofajpflckpmaaGreatDoorSeat1
namespace Go.Av
noncomputable section
open Go.Proofs
set_option maxRecDepth 1000000
noncomputable def Qj6 (f : Nat) : Option CFunc := (Qin[f]?).join
def AllOk (P : Program) : Nat → List (Option CFunc) → Prop
 | _, [] => True
 | n, none :: r => AllOk P (n + 1) r
 | n, some c :: r => Q0 P n c = true ∧ AllOk P (n + 1) r
theorem okE {P : Program} {n : Nat} : AllOk P n [] := trivial
theorem okN {P : Program} {n : Nat} {r : List (Option CFunc)} (h : AllOk P (n + 1) r) : AllOk P n (none :: r) := h
theorem okS {P : Program} {n : Nat} {c : CFunc} {r : List (Option CFunc)} (hc : Q0 P n c = true) (h : AllOk P (n + 1) r) : AllOk P n (some c :: r) := ⟨hc, h⟩
theorem AllOk.spec {P : Program} : ∀ (l : List (Option CFunc)) (n : Nat), AllOk P n l → ∀ i c, l[i]? = some (some c) → Q0 P (n + i) c = true
 | [], n, h, i, c, hi => by simp at hi
 | none :: r, n, h, i, c, hi => by
  cases i with
  | zero => simp at hi
  | succ i => have := AllOk.spec r (n + 1) h i c (by simpa using hi); rwa [show n + (i + 1) = n + 1 + i by omega]
 | some d :: r, n, h, i, c, hi => by
  cases i with
  | zero => simp at hi; subst hi; exact h.1
  | succ i => have := AllOk.spec r (n + 1) h.2 i c (by simpa using hi); rwa [show n + (i + 1) = n + 1 + i by omega]
theorem all1 : AllOk Tryz.prog 0 Qin := (okN (okN (okN (okS k3 (okS k4 (okS k5 (okS k6 (okS k7 (okS k8 (okS k9 (okS k10 (okS k11 (okS k12 (okS k13 (okS k14 (okS k15 (okS k16 (okS k17 (okS k18 (okS k19 (okS k20 (okS k21 (okS k22 (okS k23 (okS k24 (okS k25 (okS k26 (okS k27 (okS k28 (okS k29 (okS k30 (okS k31 (okS k32 (okS k33 (okS k34 (okS k35 (okS k36 (okS k37 (okS k38 (okS k39 (okS k40 (okS k41 (okS k42 (okS k43 (okS k44 (okS k45 (okS k46 (okS k47 (okS k48 (okS k49 (okS k50 (okS k51 (okS k52 (okS k53 (okS k54 (okS k55 (okS k56 (okS k57 (okS k58 (okS k59 (okS k60 (okS k61 (okS k62 (okS k63 (okS k64 (okS k65 (okS k66 (okS k67 (okS k68 (okS k69 (okS k70 (okS k71 (okS k72 (okS k73 (okS k74 (okS k75 (okS k76 (okS k77 (okS k78 (okS k79 (okS k80 (okS k81 (okS k82 (okS k83 (okS k84 (okS k85 (okS k86 (okS k87 (okS k88 (okS k89 (okS k90 (okS k91 (okS k92 (okS k93 (okS k94 (okS k95 (okS k96 (okS k97 (okS k98 (okS k99 (okS Qss (okS Qrb (okS Qv8 (okS Qra (okS Qv5 (okS Qx7 (okS Qxj (okS Qt2 (okS Qtu (okS Qwf (okS Qsi (okS Qqu (okS Qjw (okS Qps (okS Qxp (okN (okS Qjk (okS Qu9 (okS Qwo (okS Qvo (okS Qjp (okS Qwd (okS Qti (okS Qry (okS Qtd (okS Qvn (okS Qsm (okS Qtv (okS Qt9 (okS Qwl (okS Qrx (okS Qt8 (okS Qty (okS Qud (okS Qxa (okS Qw0 (okS Qv9 (okS Qxm (okS Qx6 (okS Qxl (okS Qtq (okS Qsf (okS Qto (okS Qx2 (okS Qrq (okS Qrd (okS Ql9 (okS Qrt (okS Qu1 (okS Qur (okS Qt6 (okS Qru (okS Qt0 (okS Qt5 (okS Qt1 (okS Quz (okS Qwe (okS Qup (okS Qri (okS Qw4 (okS Qux (okS Qws (okS Quy (okS Qww (okS Qwn (okS Qus (okS Qsc (okS Qw5 (okS Qrg (okS Qv4 (okS Qtc (okS Qxc (okS Qvr (okS Qsv (okS Qxg (okN (okS Qxo (okS Qr1 (okS Quh (okS Qtk (okS Quu (okS Qrc (okS Qwv (okS Qxr (okS Qrf (okS Qr6 (okS Qut (okS Quq (okS Qx1 (okS Qs8 (okS Qui (okS Qvf (okS Qrw (okS Qua (okS Qrh (okS Qsz (okS Qwi (okS Qsx (okS Qre (okS Qwb (okS Qs5 (okS Qtj (okS Qtw (okS Qqy (okS Qr9 (okS Qsu (okS Qxe (okS Qvu (okS Qw6 (okS Qw2 (okS Qva (okS Qvk (okS Qxd (okS Qv7 (okS Qu4 (okS Qu3 (okS Qr4 (okS Qwc (okS Qrl (okS Qso (okS Qub (okS Qw8 (okS Qsd (okS Qx3 (okS Qs2 (okS Qt7 (okS Quf (okS Qvl (okS Qs9 (okS Qsg (okS Qwp (okS Qx9 (okS Qxq (okS Qx4 (okS Quw (okS Qs3 (okS Qvq (okS Qv2 (okS Qul (okS Qxf (okS Qvx (okS Qr5 (okS Qr8 (okS Qvj (okS Qsr (okS Qse (okS Qrn (okS Qr3 (okS Qu6 (okS Qve (okS Quv (okS Qqx (okS Qvg (okS Qsw (okS Qvy (okS Qu2 (okS Qsj (okS Qwt (okS Qwg (okS Qs1 (okS Qw7 (okS Qxi (okS Qs6 (okS Qtt (okS Qts (okS Qvw (okS Qwq (okS Qwa (okS Qv0 (okS Qvt (okS Qtz (okS Qxh (okS Qx5 (okS Qvd (okS Qu5 (okS Qtb (okS Qtl (okS Qxk (okS Qun (okS Qxb (okS Qug (okS Qvm (okS Qtx (okS Qsa (okS Qu0 (okS Qwj (okS Quk (okS Qw9 (okS Qwz (okS Qvc (okS Qx8 (okS Qtm (okS Qqz (okS Qvs (okS Qsl (okS Qvb (okS Qwm (okS Qtr (okS Que (okS Qsb (okS Qvh (okS Qsy (okS Qth (okS Qt3 (okS Qwu (okS Qs4 (okS Qsh (okS Qsq (okS Qrr (okS Qrj (okS Qsk (okS Qwy (okS Qte (okS Qv6 (okS Qvv (okS Qu7 (okS Qrz (okS Qsp (okS Qro (okS Quo (okS Qrm (okS Qrk (okS Qx0 (okS Qum (okS Qta (okS Qtf (okS Qvp (okS Qtp (okS Qsn (okS Qwr (okS Qu8 (okS Qrs (okN (okN (okS Qtn (okS Qrp (okS Quc (okS Qr0 (okS Qs0 (okS Qrv (okS Qwk (okS Qr2 (okS Qr7 (okN (okS Qst (okS Qt4 (okS Qxn (okS Qwx (okS Quj okE)))))))))))))))))))))))))))))))))))))))))))))))))))))))))))))))))))))))))))))))))))))))))))))))))))))))))))))))))))))))))))))))))))))))))))))))))))))))))))))))))))))))))))))))))))))))))))))))))))))))))))))))))))))))))))))))))))))))))))))))))))))))))))))))))))))))))))))))))))))))))))))))))))))))))))))))))))))))))))))))))))))))))))))))))))))))))))))
theorem Qgm (f : Nat) (cf : CFunc) (h : Qj6 f = some cf) : Q0 Tryz.prog f cf = true := by
 unfold Qj6 at h
 have : Qin[f]? = some (some cf) := by
  cases hc : Qin[f]? with
  | none => rw [hc] at h; cases h
  | some o => rw [hc] at h; simp at h; rw [h]
 simpa using all1.spec Qin 0 f cf this
noncomputable def kn1 : Know2 := ⟨Qj6, fun _ _ => none, fun _ _ _ => none⟩
theorem Qa7 : KnowOk2 Tryz.prog G1 kn1 := ⟨Qgm, fun _ _ _ h => (by cases h), fun _ _ _ _ h => (by cases h)⟩
end
end Go.Av
