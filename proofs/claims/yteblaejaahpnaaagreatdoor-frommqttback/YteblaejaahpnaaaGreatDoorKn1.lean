/- Part of the proof of FrommqttBack: for every input the law returns true; no condition. -/
import Derived.Test.YteblaejaahpnaaaGreatDoorChks
import Derived.Test.YteblaejaahpnaaaGreatDoorAvClosed4
import Derived.Test.YteblaejaahpnaaaGreatDoorSeat1
set_option linter.all false
namespace Go.Av
noncomputable section
open Go.Proofs
set_option maxRecDepth 1000000
noncomputable def Z7y (f:Nat):Option CFunc:=(Z4m[f]?).join
def AllOk (P:Program):Nat→List (Option CFunc)→Prop
 | _,[]=>True
 | n,none::r=>AllOk P (n+1) r
 | n,some c::r=>Q6k P n c=true∧AllOk P (n+1) r
theorem okE {P:Program} {n:Nat}:AllOk P n []:=trivial
theorem okN {P:Program} {n:Nat} {r:List (Option CFunc)} (h:AllOk P (n+1) r):AllOk P n (none::r):=h
theorem okS {P:Program} {n:Nat} {c:CFunc} {r:List (Option CFunc)} (hc:Q6k P n c=true) (h:AllOk P (n+1) r):AllOk P n (some c::r):=⟨hc,h⟩
theorem AllOk.spec {P:Program}:∀ (l:List (Option CFunc)) (n:Nat),AllOk P n l→∀ i c,l[i]? = some (some c)→Q6k P (n+i) c=true
 | [],n,h,i,c,hi=>by simp at hi
 | none::r,n,h,i,c,hi=>by
  cases i with
  | zero=>simp at hi
  | succ i=>have:=AllOk.spec r (n+1) h i c (by simpa using hi);rwa [show n+(i+1)=n+1+i by omega]
 | some d::r,n,h,i,c,hi=>by
  cases i with
  | zero=>simp at hi;subst hi;exact h.1
  | succ i=>have:=AllOk.spec r (n+1) h.2 i c (by simpa using hi);rwa [show n+(i+1)=n+1+i by omega]
theorem all1:AllOk Tryz.prog 0 Z4m:=(okN (okN (okN (okS k3 (okN (okS k5 (okS k6 (okS k7 (okS k8 (okS k9 (okS k10 (okS k11 (okS k12 (okS k13 (okS k14 (okS k15 (okS k16 (okN (okS k18 (okS k19 (okS k20 (okS k21 (okS k22 (okS k23 (okS k24 (okS k25 (okS k26 (okS k27 (okS k28 (okS k29 (okS k30 (okS k31 (okS k32 (okS k33 (okS k34 (okS k35 (okS k36 (okS k37 (okS k38 (okS k39 (okS k40 (okS k41 (okS k42 (okS k43 (okS k44 (okN (okN (okS k47 (okS k48 (okS k49 (okS k50 (okS k51 (okS k52 (okS k53 (okS k54 (okS k55 (okS k56 (okS k57 (okS k58 (okS k59 (okS k60 (okS k61 (okS k62 (okS k63 (okS k64 (okS k65 (okS k66 (okS k67 (okS k68 (okS k69 (okS k70 (okS k71 (okS k72 (okS k73 (okS k74 (okN (okN (okN (okN (okN (okN (okS k81 (okS k82 (okS k83 (okS k84 (okS k85 (okS k86 (okS k87 (okS k88 (okS k89 (okS k90 (okS k91 (okS k92 (okS k93 (okS k94 (okS k95 (okS k96 (okS k97 (okS k98 (okS k99 (okS Zeo (okS Zbp (okS Zd0 (okS Zjg (okS Zm7 (okS Zr3 (okS Zcy (okS Zek (okS Zpy (okS Zmd (okS Z9l (okS Zgk (okS Zl3 (okS Zt7 (okS Zf7 (okS Zt9 (okS Zud (okS Zol (okS Zot (okS Ztj (okS Zwv (okS Zfz (okS Zoh (okS Zc9 (okS Zmq (okS Zu1 (okS Zxa (okS Zq9 (okS Zrt (okS Zws (okS Zr2 (okS Zlj (okS Znq (okS Zas (okS Zo9 (okS Zlr (okS Zkj (okS Zil (okS Zh9 (okN (okN (okN (okN (okN (okN (okN (okN (okN (okN (okS Zkl (okS Zdv (okN (okS Zn1 (okS Zgy (okS Zg2 (okS Zde (okS Z9n (okS Zeb (okS Zcm (okS Zac (okS Zmk (okS Zat (okS Zeq (okS Zer (okS Zgu (okS Zb9 (okS Zp6 (okS Ziu (okS Zjl (okS Zpj (okS Zi8 (okS Zw2 (okS Zim (okS Zqa (okS Zeg (okS Zuu (okS Zmu (okS Zr4 (okS Zms (okS Zql (okS Zvo (okS Zo1 (okS Zo2 (okS Zx6 (okS Zsd (okS Zcz (okS Zjc (okS Zcg (okS Z9d (okS Zsg (okS Zih (okS Zx2 (okS Zrv (okS Zt5 (okS Zug (okS Zua (okS Zpq (okS Zra (okS Zoq (okS Zkv (okS Z9w (okS Zcx (okS Zff (okS Zqi (okS Zve (okS Ztb (okS Zum (okS Zsj (okS Zqr (okS Zrn (okS Zrl (okS Zwo (okS Zup (okS Ztw (okS Zwu (okS Zfg (okS Zl8 (okS Zkh (okN (okN (okN (okN (okN (okN (okN (okN (okS Zdg (okS Zj2 (okS Zhk (okS Zmm (okS Zj9 (okS Zbc (okS Zhb (okS Zif (okS Zk0 (okS Zmt (okS Ztd (okS Zmr (okS Zwz (okS Zcf (okS Zuy (okS Zkg (okS Zu8 (okS Zk6 (okS Ztk (okS Zg4 (okS Zgb (okS Zvf (okS Zh3 (okS Zd9 (okS Zfh (okS Zox (okS Zlz (okS Zwn (okS Zej (okS Z7i (okS Zg8 (okS Zoz (okS Zwm (okS Zs3 (okS Zr6 (okS Zq8 (okS Zq4 (okS Zqm (okS Zti (okS Zv7 (okS Zv9 (okS Zus (okS Zry (okS Zs7 (okS Zs2 (okS Zwp (okS Za7 (okS Qyu (okS Z48 (okS Qvp (okS Z5y (okS Zwb (okS Zx5 (okS Ztg (okS Zvk (okS Zqz (okS Zta (okS Zqu (okS Zvw (okS Zvz (okS Zvc (okN (okS Zhf (okS Z6d (okS Zjs (okS Zee (okS Zb6 (okS Zku (okS Zdo (okS Zk1 (okS Znp (okS Zsp (okS Zvq (okS Zut (okS Zwf (okS Zw4 (okS Zsk (okS Znd (okS Zba (okS Zqc (okS Zx9 (okS Ztc (okS Zha (okS Zpa (okS Zpg (okS Zgz (okS Zwj (okS Zsb (okS Zuh (okS Ztl (okS Zgo (okS Z9k (okS Zf1 (okS Zod (okS Zqf (okS Zhe (okS Zp8 (okS Zq7 (okS Zn5 (okS Zb1 (okS Zcs (okS Z9c (okS Za4 (okS Zli (okS Zma (okS Zl4 (okS Zld (okS Zhc (okS Zje (okS Za5 (okS Zfy (okS Zfe (okS Zmx (okS Zqq (okS Zqk (okS Zu5 (okS Zt2 (okS Zs6 (okS Zt1 (okS Zuc (okS Zsn (okS Zvn (okS Zu0 (okS Zt6 (okS Zx4 (okS Zvl (okS Zwi (okS Zby (okS Zwq (okS Zr0 (okS Zx3 (okS Zuf (okS Zx8 (okS Zuo (okS Zro (okS Zur (okS Zwc (okN (okS Zj7 (okS Zni (okS Zr8 (okS Zs1 (okS Zrc (okS Zw3 (okS Zt8 (okS Zk7 (okS Zs9 (okS Z9r (okS Zor (okS Z9s (okS Zk4 (okS Zcc (okS Zs0 (okS Zvr (okS Zv3 (okS Zb4 (okS Zrx (okS Zed (okS Zgd (okS Zm2 (okS Zdz (okS Z85 (okS Z89 (okS Zfw (okS Z7u (okS Z9z (okS Z80 (okS Zr1 (okS Zg9 (okS Zi9 (okS Zdm (okS Zqs (okN (okS Ztp (okS Zsf (okS Zuj (okS Zso (okS Zx1 (okS Zqo (okS Zx0 (okS Ztq (okS Zv2 (okS Zrp (okS Zr9 (okS Zte (okS Zrb (okS Zr7 (okS Zqb (okS Zrw (okS Zwh (okS Ztf (okS Zrh (okS Zsa (okS Zst (okS Zqx (okS Zui (okS Zs8 (okS Zsc (okS Zu9 (okS Zbx (okS Zun (okS Zqh (okS Zsv (okS Zm9 (okS Zjb (okS Zc1 (okS Zlu (okS Zko (okS Zib (okS Zmo (okS Zpp (okS Zuw (okS Zq6 (okS Zw7 (okS Zjv (okS Zwa (okS Zou (okS Zsh (okS Zqe (okS Zwd (okS Zvd (okS Zrr (okS Zxc (okS Zux (okS Zu6 (okS Zvm (okS Zxb (okS Zu4 (okS Zvj (okS Zsz (okS Zru (okS Zts (okS Zvy (okS Zvv (okS Zs4 (okS Zsl (okS Zlo (okS Zn0 (okS Zbe (okS Zam (okS Zsm (okS Zre (okS Zqg (okS Zwe (okS Zu3 (okS Zvb (okS Zrk (okS Zd4 (okN (okS Zvu (okS Zq5 (okS Zv5 (okS Zth (okS Zss (okS Zty (okS Zw6 (okS Zv4 (okS Zrd (okS Zsy (okS Ztu (okS Zrf (okS Zu7 (okS Zw1 (okS Zsx (okS Zwg (okS Zrg (okS Zul (okN (okN (okS Zeh (okS Zad (okS Zlw (okS Ztv (okS Zwl (okS Zw9 (okS Zsi (okS Zse (okS Zuz (okS Zx7 (okS Zwx (okS Zv6 (okS Zww (okS Zu2 (okS Zqy (okS Zri (okS Zue (okS Zuv (okS Zsr (okS Zto (okS Zov (okS Zaa (okS Z9p (okS Zgx (okS Z8n (okS Zqj (okS Zvs (okS Zvg (okS Ztz (okS Zw5 (okS Zwr (okS Zna (okS Ze3 (okN (okS Zqt (okS Zs5 (okS Zvt (okS Zpx (okS Zrz okE))))))))))))))))))))))))))))))))))))))))))))))))))))))))))))))))))))))))))))))))))))))))))))))))))))))))))))))))))))))))))))))))))))))))))))))))))))))))))))))))))))))))))))))))))))))))))))))))))))))))))))))))))))))))))))))))))))))))))))))))))))))))))))))))))))))))))))))))))))))))))))))))))))))))))))))))))))))))))))))))))))))))))))))))))))))))))))))))))))))))))))))))))))))))))))))))))))))))))))))))))))))))))))))))))))))))))))))))))))))))))))))))))))))))))))))))))))))))))))))))))))))))))))))))))))))))))))))))))))))))))))))))))))))
theorem Z1l (f:Nat) (cf:CFunc) (h:Z7y f=some cf):Q6k Tryz.prog f cf=true:=by
 unfold Z7y at h
 have:Z4m[f]? = some (some cf):=by
  cases hc:Z4m[f]? with
  | none=>rw [hc] at h;cases h
  | some o=>rw [hc] at h;simp at h;rw [h]
 simpa using all1.spec Z4m 0 f cf this
noncomputable def kn1:Know2:=⟨Z7y,fun _ _=>none,fun _ _ _=>none⟩
theorem Qaq:KnowOk2 Tryz.prog G1 kn1:=⟨Z1l,fun _ _ _ h=>(by cases h),fun _ _ _ _ h=>(by cases h)⟩
end
end Go.Av
