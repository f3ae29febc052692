/- Part of the proof of EventOwn: for every input the law returns true; no condition. -/
import Derived.Test.YtnbdhlnkhdhohaaGreatDoorAvOwn
import Derived.Test.YtnbdhlnkhdhohaaGreatDoorSeat1
import Derived.KernelRfl
import Derived.Test.YtnbdhlnkhdhohaaGreatDoorChks
import Derived.Test.YtnbdhlnkhdhohaaGreatDoorAvClosed4
namespace Go.Av
noncomputable section
def gtab0 : List Int := Go.Pinned.utf8FirstZ.map fun (n : Nat) => (n : Int)
theorem Qm6 : 256 = gtab0.length := by kernel_rfl
theorem Qo6 : Go.Pinned.utf8FirstZ.map (fun (n : Nat) => PV.int .u8 (n : Int)) = (Q8 (cI .u8) gtab0).flatten := by kernel_rfl
@[reducible] def cUU (p : Int × Int) : List PV := [.int .u8 p.1, .int .u8 p.2]
def gtab1 : List (Int × Int) := [(128, 191), (160, 191), (128, 159), (144, 191), (128, 143), (0, 0), (0, 0), (0, 0), (0, 0), (0, 0), (0, 0), (0, 0), (0, 0), (0, 0), (0, 0), (0, 0)]
theorem Qln : 16 = gtab1.length := by kernel_rfl
theorem Qpa : [PV.int .u8 128, PV.int .u8 191, PV.int .u8 160, PV.int .u8 191, PV.int .u8 128, PV.int .u8 159, PV.int .u8 144, PV.int .u8 191, PV.int .u8 128, PV.int .u8 143, PV.int .u8 0, PV.int .u8 0, PV.int .u8 0, PV.int .u8 0, PV.int .u8 0, PV.int .u8 0, PV.int .u8 0, PV.int .u8 0, PV.int .u8 0, PV.int .u8 0, PV.int .u8 0, PV.int .u8 0, PV.int .u8 0, PV.int .u8 0, PV.int .u8 0, PV.int .u8 0, PV.int .u8 0, PV.int .u8 0, PV.int .u8 0, PV.int .u8 0, PV.int .u8 0, PV.int .u8 0] = (Q8 cUU gtab1).flatten := by kernel_rfl
end
end Go.Av
namespace Go.Av
noncomputable section
open Go.Proofs
set_option maxRecDepth 1000000
noncomputable def Z4p (f : Nat) : Option CFunc := (Qva[f]?).join
def AllOk (P : Program) : Nat → List (Option CFunc) → Prop
 | _, [] => True
 | n, none :: r => AllOk P (n + 1) r
 | n, some c :: r => Q1a P n c = true ∧ AllOk P (n + 1) r
theorem okE {P : Program} {n : Nat} : AllOk P n [] := trivial
theorem okN {P : Program} {n : Nat} {r : List (Option CFunc)} (h : AllOk P (n + 1) r) : AllOk P n (none :: r) := h
theorem okS {P : Program} {n : Nat} {c : CFunc} {r : List (Option CFunc)} (hc : Q1a P n c = true) (h : AllOk P (n + 1) r) : AllOk P n (some c :: r) := ⟨hc, h⟩
theorem AllOk.spec {P : Program} : ∀ (l : List (Option CFunc)) (n : Nat), AllOk P n l → ∀ i c, l[i]? = some (some c) → Q1a P (n + i) c = true
 | [], n, h, i, c, hi => by simp at hi
 | none :: r, n, h, i, c, hi => by
  cases i with
  | zero => simp at hi
  | succ i => have := AllOk.spec r (n + 1) h i c (by simpa using hi); rwa [show n + (i + 1) = n + 1 + i by omega]
 | some d :: r, n, h, i, c, hi => by
  cases i with
  | zero => simp at hi; subst hi; exact h.1
  | succ i => have := AllOk.spec r (n + 1) h.2 i c (by simpa using hi); rwa [show n + (i + 1) = n + 1 + i by omega]
theorem all1 : AllOk Tryz.prog 0 Qva := (okN (okN (okN (okS k3 (okS k4 (okS k5 (okS k6 (okS k7 (okS k8 (okS k9 (okS k10 (okS k11 (okS k12 (okS k13 (okS k14 (okS k15 (okS k16 (okS k17 (okS k18 (okS k19 (okS k20 (okS k21 (okS k22 (okS k23 (okS k24 (okS k25 (okS k26 (okS k27 (okS k28 (okS k29 (okS k30 (okS k31 (okS k32 (okS k33 (okS k34 (okS k35 (okS k36 (okS k37 (okS k38 (okS k39 (okS k40 (okS k41 (okS k42 (okS k43 (okS k44 (okS k45 (okS k46 (okS k47 (okS k48 (okS k49 (okS k50 (okS k51 (okS k52 (okS k53 (okS k54 (okS k55 (okS k56 (okS k57 (okS k58 (okS k59 (okS k60 (okS k61 (okS k62 (okS k63 (okS k64 (okS k65 (okS k66 (okS k67 (okS k68 (okS k69 (okS k70 (okS k71 (okS k72 (okS k73 (okS k74 (okS k75 (okS k76 (okS k77 (okS k78 (okS k79 (okS k80 (okS k81 (okS k82 (okS k83 (okS k84 (okS k85 (okS k86 (okS k87 (okS k88 (okS k89 (okS k90 (okS k91 (okS k92 (okS k93 (okS k94 (okS k95 (okS k96 (okS k97 (okS k98 (okS k99 (okS Zbo (okS Z85 (okS Zco (okS Z60 (okS Zdo (okS Zg6 (okS Zf4 (okS Zhi (okS Zil (okS Zj7 (okS Zi8 (okS Zan (okS Z93 (okS Za6 (okS Zfz (okS Zcm (okS Zg4 (okS Z8o (okS Zf2 (okS Zca (okS Z5r (okS Zc2 (okS Z5j (okS Zj6 (okS Z9j (okS Zhc (okS Zb8 (okS Zig (okS Z5v (okS Zhp (okS Zb6 (okS Zh4 (okS Zgz (okS Zfn (okS Zao (okS Z6f (okS Z8v (okS Z9e (okS Zgh (okS Zaj (okS Zcr (okS Z8t (okS Z89 (okS Zd9 (okS Zdw (okS Z7y (okS Zip (okS Zhb (okS Zhr (okS Zje (okS Zk1 (okS Ze3 (okS Zfb (okS Z96 (okS Zjy (okN (okS Z7b (okS Zgd (okS Zi5 (okS Z8y (okS Zih (okS Zag (okS Zhz (okS Zc0 (okS Zhy (okS Zez (okS Zjr (okS Zas (okS Z91 (okS Zfh (okS Zdb (okS Z63 (okS Z6u (okS Zgu (okS Z6w (okS Zbb (okS Zgt (okS Zci (okS Z8l (okS Zk0 (okS Z7c (okS Ze7 (okS Zgr (okS Zk8 (okS Zjz (okS Zes (okS Z76 (okS Zbs (okS Zgi (okS Za8 (okS Zfj (okS Z97 (okS Zcy (okS Zjb (okS Zh3 (okS Zia (okS Zk3 (okS Qzz (okS Z5p (okS Zc1 (okS Zcx (okS Qx4 (okS Zhs (okS Z3r (okS Zgl (okS Zfe (okS Zdt (okS Zet (okS Zim (okS Qzc (okS Qt6 (okS Zha (okS Zar (okS Zeh (okS Z5e (okS Z6n (okS Zi9 (okS Zbk (okS Zcn (okS Zjl (okS Zix (okS Ze2 (okS Zfi (okS Zd3 (okS Zcs (okS Zcf (okS Z9b (okS Zho (okS Zhx (okS Zeb (okS Zk5 (okS Zhe (okS Zjv (okS Zdn (okN (okS Z7e (okS Zae (okS Zh0 (okS Zh5 (okS Zib (okS Zh2 (okS Zit (okS Zf9 (okS Qo7 (okS Zfq (okS Zfk (okS Zc9 (okS Zij (okS Zi0 (okS Zic (okS Z7j (okS Zh8 (okS Zdg (okS Zd5 (okS Zbp (okS Z95 (okS Z4d (okS Z9c (okS Z3t (okS Zeq (okS Z4v (okS Z5i (okS Z4n (okS Zeu (okS Ze5 (okS Zjd (okS Zjq (okS Zi7 (okS Qmh (okS Zdx (okS Zau (okS Zdv (okS Z7n (okS Z7q (okS Z5w (okS Z8x (okS Z83 (okS Z99 (okS Zew (okS Zf7 (okS Z8s (okS Zc3 (okS Zgj (okS Z71 (okS Zjm (okS Zct (okS Zk4 (okS Zhv (okS Z8m (okS Ziz (okS Ziu (okS Zid (okS Zbg (okS Z82 (okS Zec (okS Zde (okS Z9h (okS Zbc (okS Zjw (okS Zk9 (okS Zhu (okS Z5u (okS Z61 (okS Zjf (okS Qxr (okS Z4e (okS Zj9 (okS Zb7 (okS Z9l (okS Zj2 (okS Zio (okS Zk6 (okS Zi2 (okS Zi6 (okS Zjj (okS Zhn (okS Ziv (okS Zjh (okS Zju (okS Zjo (okS Zji (okS Zhd (okS Zjn (okS Z5d (okS Z5n (okS Ziq (okS Zk2 (okS Zh9 (okS Zhl (okS Zis (okS Zii (okS Ziw (okS Zbz (okS Zer (okS Zj8 (okS Zir (okS Zj4 (okS Zh1 (okS Zjp (okS Zin (okN (okN (okS Z68 (okS Z59 (okS Zht (okS Zi1 (okS Zhm (okS Z7t (okS Zbt (okS Z6g (okS Zhj (okS Zj1 (okS Z90 (okS Z52 (okS Z7o (okS Zgx (okN (okS Zj0 (okS Zej (okS Zjc okE))))))))))))))))))))))))))))))))))))))))))))))))))))))))))))))))))))))))))))))))))))))))))))))))))))))))))))))))))))))))))))))))))))))))))))))))))))))))))))))))))))))))))))))))))))))))))))))))))))))))))))))))))))))))))))))))))))))))))))))))))))))))))))))))))))))))))))))))))))))))))))))))))))))))))))))))))))))))))))))))))))))))))))))))))))))))))))))))))))))))
theorem Z0v (f : Nat) (cf : CFunc) (h : Z4p f = some cf) : Q1a Tryz.prog f cf = true := by
 unfold Z4p at h
 have : Qva[f]? = some (some cf) := by
  cases hc : Qva[f]? with
  | none => rw [hc] at h; cases h
  | some o => rw [hc] at h; simp at h; rw [h]
 simpa using all1.spec Qva 0 f cf this
noncomputable def kn1 : Know2 := ⟨Z4p, fun _ _ => none, fun _ _ _ => none⟩
theorem Q6y : KnowOk2 Tryz.prog G1 kn1 := ⟨Z0v, fun _ _ _ h => (by cases h), fun _ _ _ _ h => (by cases h)⟩
end
end Go.Av
