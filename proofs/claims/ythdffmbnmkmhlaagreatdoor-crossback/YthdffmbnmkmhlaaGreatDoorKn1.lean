/- Part of the proof of CrossBack: for every input the law returns true; no condition. -/
import Derived.Test.YthdffmbnmkmhlaaGreatDoorChks
import Derived.Test.YthdffmbnmkmhlaaGreatDoorAvClosed4
import Derived.Test.YthdffmbnmkmhlaaGreatDoorSeat1
namespace Go.Av
noncomputable section
open Go.Proofs
set_option maxRecDepth 1000000
noncomputable def Z51 (f : Nat) : Option CFunc := (Qvf[f]?).join
def AllOk (P : Program) : Nat → List (Option CFunc) → Prop
 | _, [] => True
 | n, none :: r => AllOk P (n + 1) r
 | n, some c :: r => Q0i P n c = true ∧ AllOk P (n + 1) r
theorem okE {P : Program} {n : Nat} : AllOk P n [] := trivial
theorem okN {P : Program} {n : Nat} {r : List (Option CFunc)} (h : AllOk P (n + 1) r) : AllOk P n (none :: r) := h
theorem okS {P : Program} {n : Nat} {c : CFunc} {r : List (Option CFunc)} (hc : Q0i P n c = true) (h : AllOk P (n + 1) r) : AllOk P n (some c :: r) := ⟨hc, h⟩
theorem AllOk.spec {P : Program} : ∀ (l : List (Option CFunc)) (n : Nat), AllOk P n l → ∀ i c, l[i]? = some (some c) → Q0i P (n + i) c = true
 | [], n, h, i, c, hi => by simp at hi
 | none :: r, n, h, i, c, hi => by
  cases i with
  | zero => simp at hi
  | succ i => have := AllOk.spec r (n + 1) h i c (by simpa using hi); rwa [show n + (i + 1) = n + 1 + i by omega]
 | some d :: r, n, h, i, c, hi => by
  cases i with
  | zero => simp at hi; subst hi; exact h.1
  | succ i => have := AllOk.spec r (n + 1) h.2 i c (by simpa using hi); rwa [show n + (i + 1) = n + 1 + i by omega]
theorem all1 : AllOk Tryz.prog 0 Qvf := (okN (okN (okN (okS k3 (okS k4 (okS k5 (okS k6 (okS k7 (okS k8 (okS k9 (okS k10 (okS k11 (okS k12 (okS k13 (okS k14 (okS k15 (okS k16 (okS k17 (okS k18 (okS k19 (okS k20 (okS k21 (okS k22 (okS k23 (okS k24 (okS k25 (okS k26 (okS k27 (okS k28 (okS k29 (okS k30 (okS k31 (okS k32 (okS k33 (okS k34 (okS k35 (okS k36 (okS k37 (okS k38 (okS k39 (okS k40 (okS k41 (okS k42 (okS k43 (okS k44 (okS k45 (okS k46 (okS k47 (okS k48 (okS k49 (okS k50 (okS k51 (okS k52 (okS k53 (okS k54 (okS k55 (okS k56 (okS k57 (okS k58 (okS k59 (okS k60 (okS k61 (okS k62 (okS k63 (okS k64 (okS k65 (okS k66 (okS k67 (okS k68 (okS k69 (okS k70 (okS k71 (okS k72 (okS k73 (okS k74 (okS k75 (okS k76 (okS k77 (okS k78 (okS k79 (okS k80 (okS k81 (okS k82 (okS k83 (okS k84 (okS k85 (okS k86 (okS k87 (okS k88 (okS k89 (okS k90 (okS k91 (okS k92 (okS k93 (okS k94 (okS k95 (okS k96 (okS k97 (okS k98 (okS k99 (okS Z7y (okS Zg4 (okS Qqr (okS Z5u (okS Zfy (okS Zgk (okS Zau (okS Zb0 (okS Zlk (okS Zlo (okS Zjs (okS Zlw (okS Zl3 (okS Zjt (okS Z6g (okS Za6 (okS Zkw (okS Zi4 (okS Zfv (okS Zd8 (okS Zgm (okS Zdg (okS Zfh (okS Zh1 (okS Zkc (okS Znm (okS Zkf (okS Zgo (okS Zgt (okS Z7t (okS Zcx (okS Za2 (okS Z6t (okS Zgr (okS Z66 (okS Z6h (okS Z6m (okS Zb7 (okS Z8b (okS Zey (okS Z9m (okS Z8z (okS Z8n (okS Zfa (okS Zfb (okS Zck (okS Z93 (okS Zei (okS Zge (okS Zl7 (okS Zcq (okS Ze9 (okS Za1 (okS Z7u (okS Z6w (okS Zl6 (okS Zle (okS Zjw (okS Zk4 (okS Zh5 (okS Zk3 (okS Z5t (okS Zak (okS Zem (okS Z9s (okS Zcd (okS Zfj (okS Zks (okS Zmf (okS Zlr (okS Zmd (okS Z9e (okS Z9a (okS Zfq (okS Z9p (okS Zbq (okS Zgb (okS Zkg (okS Z87 (okS Zgg (okS Zay (okS Zav (okS Zbg (okS Zcl (okS Z72 (okS Zgf (okS Zgn (okS Zg0 (okS Z6s (okS Zen (okS Zdh (okS Znr (okS Zf1 (okS Z6c (okS Zhb (okN (okS Zm0 (okS Zls (okS Zjm (okS Zkh (okS Zjj (okS Zfd (okS Zk1 (okS Zm2 (okS Z9k (okS Zhf (okS Znl (okS Zh9 (okS Zby (okS Ze0 (okS Zg3 (okS Z74 (okS Zj2 (okS Zh4 (okS Zn3 (okS Zm9 (okS Zm7 (okS Zk0 (okS Zkl (okS Zme (okS Zji (okS Zlb (okS Z5q (okS Zl9 (okS Zjy (okS Zgz (okS Zh2 (okS Zkr (okS Znk (okS Zmj (okS Zkd (okS Zim (okS Zb4 (okS Zll (okS Zhe (okS Zht (okS Zhp (okS Zhy (okS Znc (okS Zi1 (okS Zly (okS Zko (okS Ziy (okS Zmr (okS Zm5 (okN (okS Zih (okS Zil (okS Zlt (okS Zho (okS Zj4 (okS Zi7 (okS Zj1 (okS Znh (okS Zl4 (okS Zna (okS Zgx (okS Znq (okS Zhr (okS Znv (okS Znu (okS Zkj (okS Zlc (okS Ziq (okS Zln (okS Zhd (okS Zjr (okS Zj7 (okS Zkb (okS Zjx (okS Znf (okS Zha (okS Zmt (okS Zjv (okS Zne (okS Zif (okS Zno (okS Zkk (okS Zk5 (okS Zix (okS Zmn (okS Zmu (okS Zn0 (okS Zml (okS Zju (okS Zlz (okS Znd (okS Zk6 (okS Ziv (okS Zl1 (okS Zn7 (okS Zmo (okS Zn1 (okS Zjl (okS Zma (okS Zik (okS Zli (okS Zmx (okS Zj5 (okS Zkm (okS Zm6 (okS Zjb (okS Zl2 (okS Znn (okS Zn8 (okS Zjp (okS Zlp (okS Zkv (okS Zmi (okS Zlm (okS Zjd (okS Zhk (okS Zjk (okS Zi2 (okS Zk2 (okS Zmv (okS Zi0 (okS Zkn (okS Zla (okS Zlv (okS Zhs (okS Zkp (okS Zhm (okS Zh0 (okS Zjg (okS Zk9 (okS Zm1 (okS Zk8 (okS Zmw (okS Zjc (okS Zn6 (okS Znw (okS Zi3 (okS Zi6 (okS Zku (okS Zni (okS Zjh (okS Zj9 (okS Zlj (okS Zhu (okS Zlf (okS Zl8 (okS Zmb (okS Zl5 (okS Zhg (okS Zkx (okS Zn9 (okS Zlx (okS Zi8 (okS Zi5 (okS Zkz (okS Zn4 (okS Zii (okS Zm3 (okS Zis (okS Ziz (okS Zlu (okS Zhl (okS Zh8 (okS Zmk (okS Zkq (okS Zjf (okS Zjz (okS Zhh (okS Zlh (okS Zhz (okS Zir (okS Zhj (okS Zmp (okS Zkt (okS Zi9 (okS Zic (okS Zm8 (okS Zmm (okS Zhv (okS Zip (okS Zka (okS Zhq (okS Zj3 (okS Zhc (okS Zja (okS Zh7 (okS Zjq (okS Zj6 (okS Zns (okS Zlq (okS Zia (okS Zie (okS Zng (okS Zm4 (okS Zij (okS Ziu (okS Znj (okN (okN (okS Znt (okS Zin (okS Zig (okS Zmq (okS Zhi (okS Zhx (okS Zj0 (okN (okS Znb (okS Zke (okS Zit (okS Zid (okS Zn5 okE))))))))))))))))))))))))))))))))))))))))))))))))))))))))))))))))))))))))))))))))))))))))))))))))))))))))))))))))))))))))))))))))))))))))))))))))))))))))))))))))))))))))))))))))))))))))))))))))))))))))))))))))))))))))))))))))))))))))))))))))))))))))))))))))))))))))))))))))))))))))))))))))))))))))))))))))))))))))))))))))))))))))))))))))))))))))))))))))))))))))))))))))))))))))))))))))))))))))))))))))))))))))
theorem Z1o (f : Nat) (cf : CFunc) (h : Z51 f = some cf) : Q0i Tryz.prog f cf = true := by
 unfold Z51 at h
 have : Qvf[f]? = some (some cf) := by
  cases hc : Qvf[f]? with
  | none => rw [hc] at h; cases h
  | some o => rw [hc] at h; simp at h; rw [h]
 simpa using all1.spec Qvf 0 f cf this
noncomputable def kn1 : Know2 := ⟨Z51, fun _ _ => none, fun _ _ _ => none⟩
theorem Que : KnowOk2 Tryz.prog G1 kn1 := ⟨Z1o, fun _ _ _ h => (by cases h), fun _ _ _ _ h => (by cases h)⟩
end
end Go.Av
