/- Part of the proof of FrommqttVersions: for every input the law returns true; no condition. -/
import Derived.Test.YteblaejaahpnaaaGreatDoorChks
import Derived.Test.YteblaejaahpnaaaGreatDoorAvClosed4
import Derived.Test.YteblaejaahpnaaaGreatDoorSeat1
set_option linter.all false
namespace Go.Av
noncomputable section
open Go.Proofs
set_option maxRecDepth 1000000
noncomputable def Qs1 (f:Nat):Option CFunc:=(Qq3[f]?).join
def AllOk (P:Program):Nat→List (Option CFunc)→Prop
 | _,[]=>True
 | n,none::r=>AllOk P (n+1) r
 | n,some c::r=>Q0b P n c=true∧AllOk P (n+1) r
theorem okE {P:Program} {n:Nat}:AllOk P n []:=trivial
theorem okN {P:Program} {n:Nat} {r:List (Option CFunc)} (h:AllOk P (n+1) r):AllOk P n (none::r):=h
theorem okS {P:Program} {n:Nat} {c:CFunc} {r:List (Option CFunc)} (hc:Q0b P n c=true) (h:AllOk P (n+1) r):AllOk P n (some c::r):=⟨hc,h⟩
theorem AllOk.spec {P:Program}:∀ (l:List (Option CFunc)) (n:Nat),AllOk P n l→∀ i c,l[i]? = some (some c)→Q0b P (n+i) c=true
 | [],n,h,i,c,hi=>by simp at hi
 | none::r,n,h,i,c,hi=>by
  cases i with
  | zero=>simp at hi
  | succ i=>have:=AllOk.spec r (n+1) h i c (by simpa using hi);rwa [show n+(i+1)=n+1+i by omega]
 | some d::r,n,h,i,c,hi=>by
  cases i with
  | zero=>simp at hi;subst hi;exact h.1
  | succ i=>have:=AllOk.spec r (n+1) h.2 i c (by simpa using hi);rwa [show n+(i+1)=n+1+i by omega]
theorem all1:AllOk Tryz.prog 0 Qq3:=(okN (okN (okN (okN (okS k4 (okS k5 (okS k6 (okN (okS k8 (okS k9 (okS k10 (okS k11 (okN (okS k13 (okS k14 (okN (okS k16 (okS k17 (okS k18 (okS k19 (okN (okN (okS k22 (okS k23 (okS k24 (okS k25 (okS k26 (okS k27 (okS k28 (okS k29 (okS k30 (okS k31 (okS k32 (okS k33 (okS k34 (okS k35 (okN (okN (okN (okS k39 (okS k40 (okS k41 (okN (okS k43 (okS k44 (okS k45 (okS k46 (okN (okN (okS k49 (okS k50 (okS k51 (okS k52 (okS k53 (okS k54 (okS k55 (okS k56 (okS k57 (okS k58 (okS k59 (okS k60 (okN (okN (okS k63 (okN (okN (okN (okN (okS k68 (okS k69 (okS k70 (okS k71 (okS k72 (okS k73 (okS k74 (okS k75 (okS k76 (okS k77 (okS k78 (okS k79 (okS k80 (okN (okS k82 (okS k83 (okS k84 (okS k85 (okS k86 (okS k87 (okS k88 (okS k89 (okS k90 (okS k91 (okS k92 (okS k93 (okS k94 (okS k95 (okS k96 (okS k97 (okS k98 (okS k99 (okS Qxq (okS Z67 (okS Z40 (okS Qzq (okS Qx5 (okS Zcg (okS Qzu (okS Qvn (okS Qtr (okS Z6n (okS Qzf (okS Z0s (okS Ze9 (okS Z88 (okS Z05 (okS Z9n (okS Z9d (okS Quv (okS Qti (okN (okN (okS Zdg (okS Zbb (okS Z10 (okS Qz7 (okN (okN (okN (okN (okN (okN (okS Qws (okS Qxi (okS Z60 (okS Qw8 (okS Z4h (okS Z3q (okS Z68 (okS Z0z (okS Qzv (okS Zay (okS Z2t (okS Qum (okS Qt2 (okS Zd1 (okS Qwh (okS Qze (okS Z1t (okS Za8 (okS Zeu (okS Zd5 (okS Z9k (okS Zeh (okS Zdq (okS Qwp (okS Qte (okS Zde (okS Zf3 (okS Z8s (okS Zcl (okS Zba (okS Z9q (okS Zev (okS Z4a (okS Z8m (okS Z89 (okS Z11 (okS Zd8 (okS Zf2 (okS Zcd (okS Zcq (okS Z9w (okS Zdc (okS Zf5 (okS Zac (okS Z8r (okS Z6y (okS Zd9 (okS Qwl (okS Z8t (okS Ze5 (okS Z50 (okS Z0d (okS Z72 (okS Z7e (okS Z2i (okS Z2s (okS Zcw (okS Z9c (okS Z6t (okS Z58 (okS Zae (okS Za2 (okS Z75 (okS Zab (okS Zet (okS Qzs (okN (okS Z4e (okS Qxg (okS Z39 (okS Z90 (okS Qzc (okN (okN (okN (okN (okN (okN (okN (okN (okN (okN (okN (okN (okS Z5c (okS Z49 (okS Qww (okS Z8e (okS Z9r (okS Zer (okS Qv6 (okS Z1m (okS Qw1 (okS Z6m (okS Z0g (okS Zas (okS Zd7 (okS Zcy (okS Zaq (okS Ze2 (okS Ze6 (okS Z1p (okS Qwu (okS Zah (okS Z7n (okS Z9e (okS Zen (okS Z9h (okS Zcj (okS Z7t (okS Za3 (okS Zal (okS Qzi (okS Z7w (okS Qvv (okS Qw3 (okS Zbg (okS Qza (okS Qtc (okS Qvx (okS Z4l (okS Qwb (okS Z8l (okS Z93 (okS Zc6 (okS Zcs (okS Z34 (okS Z99 (okS Zdx (okS Zdt (okS Z97 (okS Z9f (okS Z76 (okS Zct (okS Z8q (okS Z8x (okS Zad (okS Z9g (okS Zez (okS Z96 (okS Z8v (okS Z5k (okS Qln (okS Qq0 (okS Ql4 (okS Qqq (okN (okN (okN (okN (okN (okN (okN (okN (okN (okN (okS Zbk (okS Z7a (okS Zb4 (okS Zcu (okS Z84 (okS Za9 (okS Zem (okS Zf4 (okS Zbj (okS Zdw (okS Zak (okS Zaw (okS Zdp (okS Z7h (okS Z91 (okS Zec (okS Zdo (okS Zey (okS Zcx (okS Zar (okS Z9b (okS Zdm (okS Qyl (okS Zf1 (okS Z8y (okS Z7u (okS Zf0 (okS Zc7 (okS Zb7 (okS Z82 (okS Z7c (okS Zdb (okS Z78 (okS Ze3 (okS Z1a (okS Z47 (okS Zeg (okS Qy1 (okS Z6j (okS Z64 (okS Qwm (okS Qyu (okS Z2u (okS Qun (okS Qyi (okS Qxk (okS Qv3 (okS Qtm (okS Zcr (okS Zbq (okS Zep (okS Z7f (okS Zex (okS Zam (okS Z6v (okS Z9x (okS Za1 (okS Zav (okS Z81 (okS Z8c (okS Z8b (okS Z9y (okS Zc0 (okS Z9p (okS Zdv (okS Zdh (okS Qxy (okN (okN (okN (okN (okN (okN (okN (okN (okN (okS Zax (okS Zee (okS Zb0 (okS Ze0 (okS Zcv (okS Z77 (okS Z8j (okS Zbd (okS Zbz (okS Z8u (okS Zd2 (okS Zc5 (okS Zed (okS Zc2 (okS Z1i (okS Z87 (okS Z7k (okS Z9o (okS Zbl (okS Z94 (okS Zb5 (okS Z8w (okS Qyq (okS Qzj (okS Qt5 (okS Qsa (okS Z4c (okS Qs5 (okS Z26 (okS Qsh (okS Z8k (okS Qu4 (okS Z2h (okS Z59 (okS Z7z (okN (okS Zb6 (okS Zeb (okS Z9l (okS Z80 (okS Zbw (okS Zch (okS Z7i (okS Ze8 (okS Z9u (okS Zcc (okS Zdu (okS Z7m (okS Zb2 (okS Z6x (okS Z71 (okS Zdj (okN (okN (okN (okN (okN (okN (okN (okN (okN (okN (okS Zeo (okS Za5 (okS Zck (okS Z9z (okS Zdr (okS Zd6 (okS Zc4 (okS Z7g (okS Z70 (okS Z7q (okS Zdi (okS Zbo (okS Za6 (okS Zbr (okS Zat (okS Z2j (okS Zdl (okS Qxe (okS Zek (okS Zau (okS Zaj (okS Z7r (okS Zdy (okS Zbn (okS Z6u (okS Z7y (okS Zbm (okS Zd3 (okS Zef (okS Zcn (okN (okN (okN (okS Zcf (okS Zan (okS Zd4 (okS Zew (okS Z85 (okS Z73 (okS Z8p (okS Ze1 (okS Zaz (okS Zds (okS Zce (okS Zag (okS Z9v (okS Z6s (okS Zcm (okS Qzr (okN (okS Zbu (okS Zaa (okS Zbx (okS Zdz (okS Z8n (okS Zcz (okS Zb8 (okS Z9j (okS Zc3 (okS Zc9 (okS Z79 (okS Z6z (okS Z7s (okS Z8o (okS Z98 (okS Zdd (okS Zea (okS Z8h (okN (okN (okS Z7o (okS Zbi (okS Zdk (okS Zcp (okS Z92 (okS Zbc (okS Zci (okS Z6w (okS Zbs (okS Zbh (okS Zco (okS Zbe (okS Zai (okS Zbf (okS Zda (okS Z7j (okS Z7v (okS Zeq (okS Ze4 (okS Z74 (okS Z8i (okS Z9s (okS Z8a (okS Za0 (okS Z7d (okS Ze7 (okS Z86 (okS Zaf (okS Zdf (okS Z95 (okS Z9a (okS Z7p (okS Zbv (okN (okS Z8d (okS Zc1 (okS Z8g (okS Zbp (okS Zc8 okE))))))))))))))))))))))))))))))))))))))))))))))))))))))))))))))))))))))))))))))))))))))))))))))))))))))))))))))))))))))))))))))))))))))))))))))))))))))))))))))))))))))))))))))))))))))))))))))))))))))))))))))))))))))))))))))))))))))))))))))))))))))))))))))))))))))))))))))))))))))))))))))))))))))))))))))))))))))))))))))))))))))))))))))))))))))))))))))))))))))))))))))))))))))))))))))))))))))))))))))))))))))))))))))))))))))))))))))))))))))))))))))))))))))))))))))))))))))))))))))))))))))))))))))))))))))))))))))))))))))))))))))))))))))
theorem Qoz (f:Nat) (cf:CFunc) (h:Qs1 f=some cf):Q0b Tryz.prog f cf=true:=by
 unfold Qs1 at h
 have:Qq3[f]? = some (some cf):=by
  cases hc:Qq3[f]? with
  | none=>rw [hc] at h;cases h
  | some o=>rw [hc] at h;simp at h;rw [h]
 simpa using all1.spec Qq3 0 f cf this
noncomputable def kn1:Know2:=⟨Qs1,fun _ _=>none,fun _ _ _=>none⟩
theorem Qku:KnowOk2 Tryz.prog G1 kn1:=⟨Qoz,fun _ _ _ h=>(by cases h),fun _ _ _ _ h=>(by cases h)⟩
end
end Go.Av
