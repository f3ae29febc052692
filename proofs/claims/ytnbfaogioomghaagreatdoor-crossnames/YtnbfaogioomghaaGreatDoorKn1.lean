/- Part of the proof of CrossNames: for every input the law returns true; no condition. -/
import Derived.Test.YtnbfaogioomghaaGreatDoorChks
import Derived.Test.YtnbfaogioomghaaGreatDoorAvClosed4
import Derived.Test.YtnbfaogioomghaaGreatDoorSeat1
namespace Go.Av
noncomputable section
open Go.Proofs
set_option maxRecDepth 1000000
noncomputable def Qie (f : Nat) : Option CFunc := (Qd2[f]?).join
def AllOk (P : Program) : Nat → List (Option CFunc) → Prop
 | _, [] => True
 | n, none :: r => AllOk P (n + 1) r
 | n, some c :: r => Xb P n c = true ∧ AllOk P (n + 1) r
theorem okE {P : Program} {n : Nat} : AllOk P n [] := trivial
theorem okN {P : Program} {n : Nat} {r : List (Option CFunc)} (h : AllOk P (n + 1) r) : AllOk P n (none :: r) := h
theorem okS {P : Program} {n : Nat} {c : CFunc} {r : List (Option CFunc)} (hc : Xb P n c = true) (h : AllOk P (n + 1) r) : AllOk P n (some c :: r) := ⟨hc, h⟩
theorem AllOk.spec {P : Program} : ∀ (l : List (Option CFunc)) (n : Nat), AllOk P n l → ∀ i c, l[i]? = some (some c) → Xb P (n + i) c = true
 | [], n, h, i, c, hi => by simp at hi
 | none :: r, n, h, i, c, hi => by
  cases i with
  | zero => simp at hi
  | succ i => have := AllOk.spec r (n + 1) h i c (by simpa using hi); rwa [show n + (i + 1) = n + 1 + i by omega]
 | some d :: r, n, h, i, c, hi => by
  cases i with
  | zero => simp at hi; subst hi; exact h.1
  | succ i => have := AllOk.spec r (n + 1) h.2 i c (by simpa using hi); rwa [show n + (i + 1) = n + 1 + i by omega]
theorem all1 : AllOk Tryz.prog 0 Qd2 := (okN (okN (okN (okS k3 (okS k4 (okS k5 (okS k6 (okS k7 (okS k8 (okS k9 (okS k10 (okS k11 (okS k12 (okS k13 (okS k14 (okS k15 (okS k16 (okS k17 (okS k18 (okS k19 (okS k20 (okS k21 (okS k22 (okS k23 (okS k24 (okS k25 (okS k26 (okS k27 (okS k28 (okS k29 (okS k30 (okS k31 (okS k32 (okS k33 (okS k34 (okS k35 (okS k36 (okS k37 (okS k38 (okS k39 (okS k40 (okS k41 (okS k42 (okS k43 (okS k44 (okS k45 (okS k46 (okS k47 (okS k48 (okS k49 (okS k50 (okS k51 (okS k52 (okS k53 (okS k54 (okS k55 (okS k56 (okS k57 (okS k58 (okS k59 (okS k60 (okS k61 (okS k62 (okS k63 (okS k64 (okS k65 (okS k66 (okS k67 (okS k68 (okS k69 (okS k70 (okS k71 (okS k72 (okS k73 (okS k74 (okS k75 (okS k76 (okS k77 (okS k78 (okS k79 (okS k80 (okS k81 (okS k82 (okS k83 (okS k84 (okS k85 (okS k86 (okS k87 (okS k88 (okS k89 (okS k90 (okS k91 (okS k92 (okS k93 (okS k94 (okS k95 (okS k96 (okS k97 (okS k98 (okS k99 (okS Qq7 (okS Qot (okS Qsb (okS Qjj (okS Qvh (okS Qtw (okS Quu (okS Qug (okS Quj (okS Qyl (okS Qwq (okS Quo (okS Qsd (okS Qza (okS Qwk (okS Qsr (okS Qys (okS Qv1 (okS Qwf (okS Qus (okS Qyz (okS Qun (okS Qyc (okS Qw3 (okS Qkk (okS Qkb (okS Qn3 (okS Qo7 (okS Qlz (okS Qkv (okS Qpk (okS Qlt (okS Qo5 (okS Qm9 (okS Qze (okS Qva (okS Qwm (okS Qvt (okS Qyh (okS Qy8 (okS Qw9 (okS Qyd (okS Qty (okS Qvy (okS Qtc (okS Qt4 (okS Qt5 (okS Qyg (okS Qvz (okS Qv3 (okS Qss (okS Qv2 (okS Qx6 (okS Qth (okS Qsu (okS Qul (okS Qpy (okS Qwi (okN (okS Qru (okS Qmj (okS Qoa (okS Qo2 (okS Qw8 (okS Qnn (okS Qjh (okS Qmc (okS Qz0 (okS Qws (okS Qxk (okS Qsx (okS Qsy (okS Qu5 (okS Qtd (okS Qo6 (okS Qse (okS Qxn (okS Qsc (okS Qwg (okS Qta (okS Qxj (okS Qn5 (okS Qwo (okS Qvf (okS Qtl (okS Qu7 (okS Quk (okS Qy3 (okS Qyn (okS Qw7 (okS Qt3 (okS Qxh (okS Qz1 (okS Qtu (okS Qve (okS Qsg (okS Qwv (okS Qvx (okS Qsl (okS Qx4 (okN (okS Qyw (okS Qo0 (okS Qtx (okS Qtv (okS Qts (okS Qsj (okS Qw4 (okS Qy7 (okS Qyu (okS Qxe (okS Qx2 (okS Qz4 (okS Qwt (okS Qxs (okS Qu6 (okS Qst (okS Quy (okS Quc (okS Qzi (okS Qzc (okS Qwe (okS Qub (okS Qzn (okS Qv7 (okS Qsz (okS Qsh (okS Qzl (okS Qxt (okS Quh (okS Qz3 (okS Qzk (okS Qy2 (okS Qwp (okS Qtk (okS Qxd (okS Qup (okS Qx3 (okS Qte (okS Qzo (okS Qvi (okS Qtz (okS Qvr (okS Qx9 (okS Qyq (okS Qxu (okS Quv (okS Qu4 (okS Qxf (okS Qzq (okS Qut (okS Qvd (okS Qt6 (okS Quf (okS Qww (okS Qyt (okS Qt2 (okS Qy9 (okS Qv9 (okS Qv6 (okS Qy1 (okS Qwx (okS Qvk (okS Quz (okS Qxb (okS Qx1 (okS Qz7 (okS Qwh (okS Qyb (okS Qvu (okS Qwn (okS Qt8 (okS Qwr (okS Qz5 (okS Qyy (okS Qvc (okS Qxc (okS Qtm (okS Qzj (okS Qv4 (okS Qtj (okS Qu9 (okS Qzd (okS Qy5 (okS Qxo (okS Qua (okS Qxq (okS Qvw (okS Qyf (okS Qw0 (okS Qz2 (okS Qsf (okS Qv5 (okS Qsn (okS Qvq (okS Qur (okS Qsq (okS Qy0 (okS Qxr (okS Qwy (okS Qx5 (okS Qy4 (okS Qxv (okS Qud (okS Qtt (okS Qxy (okS Qvm (okS Qyi (okS Qx0 (okS Qsw (okS Qyr (okS Qz9 (okS Qx7 (okS Qtr (okS Qvn (okS Quw (okS Qt0 (okS Qxx (okS Qto (okS Qw1 (okS Qu1 (okS Qvo (okS Qxw (okS Qtb (okS Qz8 (okS Qu3 (okS Que (okS Qxa (okS Qsm (okS Qzm (okS Qwu (okS Qwd (okS Qsk (okS Qvv (okS Qyv (okS Qvs (okS Qw5 (okS Qxg (okS Qyx (okS Qwb (okS Qtn (okS Quq (okS Qwl (okS Qzb (okS Qvl (okS Qxl (okS Qwa (okS Qvp (okS Qtp (okS Qt7 (okS Qx8 (okS Qzg (okS Qyj (okS Qsv (okS Qya (okS Qxp (okS Qso (okS Qux (okS Qxz (okS Qzh (okS Qym (okS Qu8 (okN (okN (okS Qt1 (okS Qvg (okS Qt9 (okS Qu2 (okS Qum (okS Qzf (okS Qtg (okN (okS Qsi (okS Qxi (okS Qyk (okS Qyp (okS Qy6 (okN (okN (okN (okN (okN (okN (okN (okN (okN (okN (okN (okN (okN (okN (okN (okN (okN (okS Qvj (okS Qw6 (okS Qv0 (okS Qsp (okS Qtf (okS Qxm (okS Qti (okN (okS Qz6 (okN (okS Qzp (okN (okS Qtq okE)))))))))))))))))))))))))))))))))))))))))))))))))))))))))))))))))))))))))))))))))))))))))))))))))))))))))))))))))))))))))))))))))))))))))))))))))))))))))))))))))))))))))))))))))))))))))))))))))))))))))))))))))))))))))))))))))))))))))))))))))))))))))))))))))))))))))))))))))))))))))))))))))))))))))))))))))))))))))))))))))))))))))))))))))))))))))))))))))))))))))))))))))))))))))))))))))))))))))))))))))))))))
theorem Qbs (f : Nat) (cf : CFunc) (h : Qie f = some cf) : Xb Tryz.prog f cf = true := by
 unfold Qie at h
 have : Qd2[f]? = some (some cf) := by
  cases hc : Qd2[f]? with
  | none => rw [hc] at h; cases h
  | some o => rw [hc] at h; simp at h; rw [h]
 simpa using all1.spec Qd2 0 f cf this
end
end Go.Av
