/- Part of the proof of EventCopies: for every input the law returns true; no condition. -/
import Derived.Test.YtnbdhlnkhdhohaaGreatDoorAvOwn
import Derived.Test.YtnbdhlnkhdhohaaGreatDoorSeat1
import Derived.KernelRfl
import Derived.Test.YtnbdhlnkhdhohaaGreatDoorChks
import Derived.Test.YtnbdhlnkhdhohaaGreatDoorAvClosed4
namespace Go.Av
noncomputable section
def gtab0 : List Int := Go.Pinned.utf8FirstZ.map fun (n : Nat) => (n : Int)
theorem Qlk : 256 = gtab0.length := by kernel_rfl
theorem Qpn : Go.Pinned.utf8FirstZ.map (fun (n : Nat) => PV.int .u8 (n : Int)) = (Q8 (cI .u8) gtab0).flatten := by kernel_rfl
@[reducible] def cUU (p : Int × Int) : List PV := [.int .u8 p.1, .int .u8 p.2]
def gtab1 : List (Int × Int) := [(128, 191), (160, 191), (128, 159), (144, 191), (128, 143), (0, 0), (0, 0), (0, 0), (0, 0), (0, 0), (0, 0), (0, 0), (0, 0), (0, 0), (0, 0), (0, 0)]
theorem Qlx : 16 = gtab1.length := by kernel_rfl
theorem Qp8 : [PV.int .u8 128, PV.int .u8 191, PV.int .u8 160, PV.int .u8 191, PV.int .u8 128, PV.int .u8 159, PV.int .u8 144, PV.int .u8 191, PV.int .u8 128, PV.int .u8 143, PV.int .u8 0, PV.int .u8 0, PV.int .u8 0, PV.int .u8 0, PV.int .u8 0, PV.int .u8 0, PV.int .u8 0, PV.int .u8 0, PV.int .u8 0, PV.int .u8 0, PV.int .u8 0, PV.int .u8 0, PV.int .u8 0, PV.int .u8 0, PV.int .u8 0, PV.int .u8 0, PV.int .u8 0, PV.int .u8 0, PV.int .u8 0, PV.int .u8 0, PV.int .u8 0, PV.int .u8 0] = (Q8 cUU gtab1).flatten := by kernel_rfl
end
end Go.Av
namespace Go.Av
noncomputable section
open Go.Proofs
set_option maxRecDepth 1000000
noncomputable def Z4p (f : Nat) : Option CFunc := (Qvi[f]?).join
def AllOk (P : Program) : Nat → List (Option CFunc) → Prop
 | _, [] => True
 | n, none :: r => AllOk P (n + 1) r
 | n, some c :: r => Q1d P n c = true ∧ AllOk P (n + 1) r
theorem okE {P : Program} {n : Nat} : AllOk P n [] := trivial
theorem okN {P : Program} {n : Nat} {r : List (Option CFunc)} (h : AllOk P (n + 1) r) : AllOk P n (none :: r) := h
theorem okS {P : Program} {n : Nat} {c : CFunc} {r : List (Option CFunc)} (hc : Q1d P n c = true) (h : AllOk P (n + 1) r) : AllOk P n (some c :: r) := ⟨hc, h⟩
theorem AllOk.spec {P : Program} : ∀ (l : List (Option CFunc)) (n : Nat), AllOk P n l → ∀ i c, l[i]? = some (some c) → Q1d P (n + i) c = true
 | [], n, h, i, c, hi => by simp at hi
 | none :: r, n, h, i, c, hi => by
  cases i with
  | zero => simp at hi
  | succ i => have := AllOk.spec r (n + 1) h i c (by simpa using hi); rwa [show n + (i + 1) = n + 1 + i by omega]
 | some d :: r, n, h, i, c, hi => by
  cases i with
  | zero => simp at hi; subst hi; exact h.1
  | succ i => have := AllOk.spec r (n + 1) h.2 i c (by simpa using hi); rwa [show n + (i + 1) = n + 1 + i by omega]
theorem all1 : AllOk Tryz.prog 0 Qvi := (okN (okN (okN (okS k3 (okN (okS k5 (okS k6 (okS k7 (okS k8 (okS k9 (okS k10 (okN (okS k12 (okS k13 (okS k14 (okS k15 (okS k16 (okS k17 (okS k18 (okS k19 (okS k20 (okS k21 (okS k22 (okS k23 (okS k24 (okS k25 (okS k26 (okS k27 (okS k28 (okS k29 (okS k30 (okS k31 (okS k32 (okS k33 (okS k34 (okS k35 (okS k36 (okS k37 (okS k38 (okS k39 (okS k40 (okS k41 (okS k42 (okS k43 (okS k44 (okS k45 (okS k46 (okS k47 (okS k48 (okS k49 (okS k50 (okS k51 (okS k52 (okS k53 (okS k54 (okS k55 (okS k56 (okS k57 (okS k58 (okS k59 (okS k60 (okS k61 (okS k62 (okS k63 (okS k64 (okS k65 (okS k66 (okS k67 (okS k68 (okS k69 (okS k70 (okS k71 (okS k72 (okS k73 (okS k74 (okS k75 (okS k76 (okS k77 (okS k78 (okS k79 (okS k80 (okS k81 (okS k82 (okS k83 (okS k84 (okS k85 (okS k86 (okS k87 (okS k88 (okS k89 (okS k90 (okS k91 (okS k92 (okS k93 (okS k94 (okS k95 (okS k96 (okS k97 (okS k98 (okS k99 (okS Zh2 (okS Zae (okS Z9c (okS Zbg (okS Z7y (okS Zeq (okS Zgl (okS Zje (okS Ziz (okS Zjo (okS Zjv (okS Zb8 (okS Zcb (okS Zg7 (okS Zek (okS Zee (okS Zbr (okS Zdv (okS Z6o (okS Zcq (okS Zcg (okS Zau (okS Zfy (okS Zk9 (okS Z6a (okS Zie (okS Zfn (okS Zik (okS Zc8 (okS Zix (okS Zax (okS Zh6 (okS Zd2 (okS Zdi (okS Zci (okS Z7c (okS Z6f (okS Z83 (okS Z7r (okS Zgv (okS Zf6 (okS Z7s (okS Zfx (okS Zca (okS Z9k (okS Zcl (okS Zjq (okS Zho (okS Zj9 (okS Zi6 (okS Zi2 (okS Z6u (okS Zfs (okS Z6e (okS Zj4 (okN (okS Zar (okS Zaq (okS Zi4 (okS Zdq (okS Zjl (okS Zcr (okS Zjn (okS Z7t (okS Zjf (okS Ze2 (okS Zhj (okS Zaf (okS Z8v (okS Z8w (okS Z68 (okS Zfw (okS Z7a (okS Z9x (okS Zgm (okS Za0 (okS Z5p (okS Zgk (okS Z91 (okS Zio (okS Z9l (okS Zgo (okS Zgt (okS Ziv (okS Zjc (okS Z98 (okS Zah (okS Z9s (okS Z60 (okS Z5z (okS Ze0 (okS Z6z (okS Z82 (okS Zk6 (okS Zkd (okS Zjx (okS Zj6 (okS Qzv (okS Z6s (okS Z5h (okS Zbd (okS Qxx (okS Ziw (okS Z3r (okS Zdo (okS Z6r (okS Zdk (okS Z7n (okS Zh8 (okS Qzm (okS Qvf (okS Zk4 (okS Zag (okS Zfg (okS Z9p (okS Zgn (okS Zjg (okS Z8m (okS Z6w (okS Zjp (okS Zh7 (okS Z6j (okS Z5l (okS Z5c (okS Zdu (okS Z80 (okS Zbn (okS Zi9 (okS Zia (okS Zcw (okS Zhk (okS Zja (okS Zjw (okS Zcs (okN (okS Zg8 (okS Zge (okS Zii (okS Zji (okS Zhq (okS Zhx (okS Zka (okS Z5d (okS Qq3 (okS Zc7 (okS Z8f (okS Z8b (okS Zir (okS Zkc (okS Zjt (okS Z5k (okS Zic (okS Zaw (okS Zai (okS Zg3 (okS Z69 (okS Z51 (okS Zco (okS Z4m (okS Zeh (okS Z4l (okS Za8 (okS Z47 (okS Zcn (okS Zf4 (okS Zj0 (okS Zjz (okS Zim (okS Qmd (okS Zf3 (okS Zfh (okS Zaj (okS Zac (okS Z8q (okS Z86 (okS Zat (okS Z7j (okS Zg9 (okS Zdh (okS Z6k (okS Z5n (okS Z6x (okS Z7w (okS Zei (okS Zi5 (okS Zgy (okS Zhv (okS Zjk (okS Zcu (okS Zhl (okS Zhy (okS Zke (okS Zay (okS Z7z (okS Zbj (okS Z87 (okS Z8k (okS Zc2 (okS Zhr (okS Ziu (okS Zh9 (okS Z8u (okS Zet (okS Zhd (okS Qw7 (okS Z4e (okS Zht (okS Z6p (okS Zcj (okS Zi8 (okS Zk5 (okS Zjd (okS Zjr (okS Zj5 (okS Zil (okS Zjy (okS Zib (okS Ziq (okS Zj8 (okS Zhw (okS Zhn (okS Zjb (okS Zjs (okS Z8s (okS Zg4 (okS Zk2 (okS Zha (okS Zk1 (okS Zhb (okS Zi0 (okS Zhi (okS Zhg (okS Zef (okS Zb4 (okS Zif (okS Zj2 (okS Zhz (okS Zi1 (okS Zk0 (okS Zj7 (okN (okN (okS Zb2 (okS Z97 (okS Zid (okS Zjj (okS Zk3 (okS Z9r (okS Zfc (okS Zdg (okS Zkb (okS Zhf (okS Zak (okS Z4g (okS Z8t (okS Zfo (okN (okS Zij (okS Ze3 (okS Zhp okE))))))))))))))))))))))))))))))))))))))))))))))))))))))))))))))))))))))))))))))))))))))))))))))))))))))))))))))))))))))))))))))))))))))))))))))))))))))))))))))))))))))))))))))))))))))))))))))))))))))))))))))))))))))))))))))))))))))))))))))))))))))))))))))))))))))))))))))))))))))))))))))))))))))))))))))))))))))))))))))))))))))))))))))))))))))))))))))))))))))))
theorem Z19 (f : Nat) (cf : CFunc) (h : Z4p f = some cf) : Q1d Tryz.prog f cf = true := by
 unfold Z4p at h
 have : Qvi[f]? = some (some cf) := by
  cases hc : Qvi[f]? with
  | none => rw [hc] at h; cases h
  | some o => rw [hc] at h; simp at h; rw [h]
 simpa using all1.spec Qvi 0 f cf this
noncomputable def kn1 : Know2 := ⟨Z4p, fun _ _ => none, fun _ _ _ => none⟩
theorem Q6w : KnowOk2 Tryz.prog G1 kn1 := ⟨Z19, fun _ _ _ h => (by cases h), fun _ _ _ _ h => (by cases h)⟩
end
end Go.Av
