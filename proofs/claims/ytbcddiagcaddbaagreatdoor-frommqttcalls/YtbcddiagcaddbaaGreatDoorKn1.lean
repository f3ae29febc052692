/- Part of FrommqttCalls: the law returns true; no condition. -/
import Derived.Test.YtbcddiagcaddbaaGreatDoorChks
import Derived.Test.YtbcddiagcaddbaaGreatDoorAvClosed4
import Derived.Test.YtbcddiagcaddbaaGreatDoorSeat1
set_option linter.all false
namespace Go.Av
noncomputable section
open Go.Proofs
set_option maxRecDepth 1000000
noncomputable def Z9x (f:Nat):Option CFunc:=(Z4w[f]?).join
def AllOk (P:Program):Nat->List (Option CFunc)->Prop
 | _,[]=>True
 | n,none::r=>AllOk P (n+1) r
 | n,some c::r=>Q75 P n c=true∧AllOk P (n+1) r
theorem okE {P:Program} {n:Nat}:AllOk P n []:=trivial
theorem okN {P:Program} {n:Nat} {r:List (Option CFunc)} (h:AllOk P (n+1) r):AllOk P n (none::r):=h
theorem okS {P:Program} {n:Nat} {c:CFunc} {r:List (Option CFunc)} (hc:Q75 P n c=true) (h:AllOk P (n+1) r):AllOk P n (some c::r):=⟨hc,h⟩
theorem AllOk.spec {P:Program}:∀ (l:List (Option CFunc)) (n:Nat),AllOk P n l->∀ i c,l[i]? = some (some c)->Q75 P (n+i) c=true
 | [],n,h,i,c,hi=>by simp at hi
 | none::r,n,h,i,c,hi=>by
  cases i with
  | zero=>simp at hi
  | succ i=>have:=AllOk.spec r (n+1) h i c (by simpa using hi);rwa [show n+(i+1)=n+1+i by omega]
 | some d::r,n,h,i,c,hi=>by
  cases i with
  | zero=>simp at hi;subst hi;exact h.1
  | succ i=>have:=AllOk.spec r (n+1) h.2 i c (by simpa using hi);rwa [show n+(i+1)=n+1+i by omega]
theorem all1:AllOk Tryz.prog 0 Z4w:=(okN (okN (okN (okS k3 (okS k4 (okS k5 (okS k6 (okS k7 (okS k8 (okS k9 (okS k10 (okS k11 (okS k12 (okS k13 (okS k14 (okS k15 (okS k16 (okS k17 (okS k18 (okS k19 (okS k20 (okS k21 (okS k22 (okS k23 (okS k24 (okS k25 (okS k26 (okS k27 (okS k28 (okS k29 (okS k30 (okS k31 (okS k32 (okS k33 (okS k34 (okS k35 (okS k36 (okS k37 (okS k38 (okS k39 (okS k40 (okS k41 (okS k42 (okS k43 (okS k44 (okS k45 (okS k46 (okS k47 (okS k48 (okS k49 (okS k50 (okS k51 (okS k52 (okS k53 (okS k54 (okS k55 (okS k56 (okS k57 (okS k58 (okS k59 (okS k60 (okS k61 (okS k62 (okS k63 (okS k64 (okS k65 (okS k66 (okS k67 (okS k68 (okS k69 (okS k70 (okS k71 (okS k72 (okS k73 (okS k74 (okS k75 (okS k76 (okS k77 (okS k78 (okS k79 (okS k80 (okS k81 (okS k82 (okS k83 (okS k84 (okS k85 (okS k86 (okS k87 (okS k88 (okS k89 (okS k90 (okS k91 (okS k92 (okS k93 (okS k94 (okS k95 (okS k96 (okS k97 (okS k98 (okS k99 (okS Zub (okS Zag (okS Zcj (okS Zek (okS Zk0 (okS Zge (okS Zip (okS Zi0 (okS Zch (okS Zhp (okS Zhd (okS Zq4 (okS Zv1 (okS Zqj (okS Zwl (okS Ze1 (okS Ztf (okS Zh3 (okS Zus (okS Ze0 (okS Zrc (okS Zn5 (okS Zpu (okS Zar (okS Zo2 (okS Zmn (okS Zm9 (okS Zm2 (okS Znt (okS Zj6 (okS Zc0 (okS Zsf (okS Zpj (okS Zgj (okS Zwy (okS Zt3 (okS Zmb (okS Zq1 (okS Zkt (okS Zk9 (okS Zwk (okS Zof (okS Zxn (okS Zxw (okS Zrl (okS Zu4 (okS Zwa (okS Zce (okS Zqq (okS Zvs (okS Zvd (okS Zfc (okS Zes (okS Zaj (okS Zhz (okS Zvx (okS Zta (okS Zu8 (okS Zxv (okS Zr6 (okS Zua (okS Zlj (okS Zm5 (okS Zlm (okS Zcp (okS Zah (okS Zhq (okS Zrm (okS Znf (okS Zs3 (okS Zgp (okS Zwv (okS Zke (okS Zr0 (okS Zfe (okS Zx8 (okS Zdq (okS Zl3 (okS Zgn (okS Zq3 (okS Zht (okS Zai (okS Zn6 (okS Zhn (okS Zj2 (okS Zpd (okS Zir (okS Zq9 (okS Zlt (okS Zbc (okS Znb (okS Zi2 (okS Zcv (okS Zaf (okS Zby (okS Ze5 (okS Zg0 (okS Zvh (okS Zkv (okS Zkz (okS Zn9 (okS Zl6 (okS Zb9 (okS Zsk (okS Zcq (okS Z8g (okS Zj0 (okS Zpr (okS Zto (okS Zxm (okS Zx6 (okS Ztj (okS Zxb (okS Zu3 (okS Zqx (okS Zuz (okS Zy0 (okS Zrd (okS Zxh (okS Zth (okS Zxf (okS Zws (okS Zei (okS Zwr (okS Zn7 (okS Zj8 (okS Zoy (okS Zdg (okS Zed (okS Zrh (okS Zwd (okS Zt7 (okS Zxc (okS Zux (okS Zvk (okS Zrn (okS Zu7 (okS Zu2 (okS Zs6 (okS Zt2 (okS Zc9 (okS Zie (okS Zif (okS Zi8 (okS Zgr (okS Zqf (okS Zk1 (okS Zsy (okS Ztx (okS Zx3 (okS Zxg (okS Zt8 (okS Zsl (okS Zp0 (okS Ze7 (okS Zxa (okS Ztp (okS Ztr (okS Zlx (okS Za9 (okS Zc5 (okS Zg2 (okS Zwi (okS Zx9 (okS Zwg (okS Zre (okS Zea (okS Zm1 (okS Zjk (okS Zou (okS Zw7 (okS Zjc (okS Zgg (okS Zu5 (okS Za8 (okS Zh8 (okS Zba (okS Zdt (okS Zbz (okS Zqs (okS Zjp (okS Zaa (okS Zoi (okS Zgk (okS Zp6 (okS Za5 (okS Zfk (okS Zcc (okS Zck (okS Zav (okS Zbx (okS Zfn (okS Zjz (okS Zk8 (okS Zm4 (okS Zex (okS Zbt (okS Zcb (okS Zdd (okS Zsc (okS Zr9 (okS Ztw (okS Zut (okS Zsw (okS Zx1 (okS Zrs (okS Zvv (okS Zsz (okS Zsd (okS Zum (okS Zs8 (okS Zvf (okS Zw8 (okS Zet (okS Qyx (okS Z7f (okS Qwu (okS Z4y (okS Zqy (okS Zxo (okS Zrb (okS Zqz (okS Zuh (okS Zs7 (okS Zrg (okS Zsg (okS Zv5 (okS Zsb (okS Ziw (okS Zde (okS Zr7 (okS Zs1 (okS Zrq (okS Ztb (okS Zug (okS Zmh (okS Zuc (okS Zls (okS Zh4 (okS Zcl (okS Zol (okS Zfl (okS Zxp (okS Zw4 (okS Zxs (okS Zik (okS Zti (okS Zen (okS Zor (okS Zqp (okS Zdb (okS Z8z (okS Z8l (okS Zhs (okS Z8u (okS Zqg (okS Z8a (okS Zsj (okS Zj7 (okS Z5d (okS Zcu (okS Zg4 (okS Zp1 (okS Zwf (okN (okS Zwh (okS Zuw (okS Zun (okS Ztu (okS Zvq (okS Zry (okS Zwq (okS Zt1 (okS Ztt (okS Zwx (okS Zsm (okS Zvz (okS Zue (okS Zxz (okS Zxi (okS Zw5 (okS Zog (okS Zri (okS Zte (okS Zxj (okS Zrk (okS Zqv (okS Zv7 (okS Zvj (okS Zsa (okS Ztd (okS Zm3 (okS Ztg (okS Zs2 (okS Zxd (okS Zp7 (okS Zpx (okS Znn (okS Zf8 (okS Zkh (okS Zkj (okS Zc7 (okS Zh7 (okS Zrz (okS Zu1 (okS Zwp (okS Zo8 (okS Zvt (okS Zf7 (okS Zwe (okS Zv4 (okS Zw3 (okS Zsq (okS Zx5 (okS Zr1 (okS Ztm (okS Zts (okS Zuo (okS Zxt (okS Zuv (okS Zwc (okS Zsx (okS Zse (okS Zr4 (okS Zss (okS Zw0 (okS Zw6 (okS Zsr (okS Zv2 (okS Zr8 (okS Zvy (okS Zv9 (okS Zxx (okS Zv0 (okS Ztl (okS Zna (okS Zpm (okS Zbi (okS Zox (okS Zxe (okS Zv3 (okS Zrt (okS Zxl (okS Zsn (okS Zrw (okS Zvg (okS Zd6 (okN (okS Zrv (okS Zwt (okS Zvr (okS Zui (okS Zvc (okS Zx7 (okS Zrr (okS Zsh (okS Zxq (okS Zrf (okS Zvb (okS Zru (okS Zst (okS Zx2 (okS Zqw (okS Zup (okS Zvo (okS Zwj (okS Zvl (okS Zsp (okS Zt0 (okN (okN (okS Zhc (okS Zjh (okS Zko (okS Zty (okS Zvu (okS Zu9 (okS Zww (okS Zwn (okS Zul (okS Zuj (okS Zwb (okS Zx4 (okS Zr2 (okS Zra (okS Zxy (okS Ztv (okS Zxr (okS Zvw (okS Zw9 (okS Ztz (okS Zpl (okS Zdm (okS Zlq (okS Zkp (okS Z9j (okS Zx0 (okS Zro (okS Zsu (okS Zu6 (okS Ztn (okS Zs0 (okS Zo5 (okS Zdk (okN (okS Zs4 (okS Zt5 (okS Zsi (okS Zgl (okS Zwu okE))))))))))))))))))))))))))))))))))))))))))))))))))))))))))))))))))))))))))))))))))))))))))))))))))))))))))))))))))))))))))))))))))))))))))))))))))))))))))))))))))))))))))))))))))))))))))))))))))))))))))))))))))))))))))))))))))))))))))))))))))))))))))))))))))))))))))))))))))))))))))))))))))))))))))))))))))))))))))))))))))))))))))))))))))))))))))))))))))))))))))))))))))))))))))))))))))))))))))))))))))))))))))))))))))))))))))))))))))))))))))))))))))))))))))))))))))))))))))))))))))))))))))))))))))))))))))))))
theorem Z48 (f:Nat) (cf:CFunc) (h:Z9x f=some cf):Q75 Tryz.prog f cf=true:=by
 unfold Z9x at h
 have:Z4w[f]? = some (some cf):=by
  cases hc:Z4w[f]? with
  | none=>rw [hc] at h;cases h
  | some o=>rw [hc] at h;simp at h;rw [h]
 simpa using all1.spec Z4w 0 f cf this
noncomputable def kn1:Know2:=⟨Z9x,fun _ _=>none,fun _ _ _=>none⟩
theorem Qbb:KnowOk2 Tryz.prog G1 kn1:=⟨Z48,fun _ _ _ h=>(by cases h),fun _ _ _ _ h=>(by cases h)⟩
end
end Go.Av
