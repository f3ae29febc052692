/- Part of the proof of CrossRound: for every input the law returns true; no condition. -/
import Derived.Test.YtaokaobiihpkbaaGreatDoorAvBridges
import Derived.Test.YtaokaobiihpkbaaGreatDoorCards
import Derived.Test.YtaokaobiihpkbaaGreatDoorTie
import Derived.KernelRfl
import Derived.Test.YtaokaobiihpkbaaGreatDoorAvOwn
import Derived.Test.YtaokaobiihpkbaaGreatDoorChks
import Derived.Test.YtaokaobiihpkbaaGreatDoorAvClosed4
set_option linter.all false
namespace Go.Av
noncomputable section
open Go.Proofs Go.Proofs.YtaokaobiihpkbaaGreatDoor
def G1:Nat→Option (List PV)
 | 1=>some (Go.Pinned.utf8FirstZ.map fun (n:Nat) => .int .u8 (n:Int))
 | 2=>some ([.int .u8 128,.int .u8 191,.int .u8 160,.int .u8 191,.int .u8 128,.int .u8 159,.int .u8 144,.int .u8 191,.int .u8 128,.int .u8 143,.int .u8 0,.int .u8 0,.int .u8 0,.int .u8 0,.int .u8 0,.int .u8 0,.int .u8 0,.int .u8 0,.int .u8 0,.int .u8 0,.int .u8 0,.int .u8 0,.int .u8 0,.int .u8 0,.int .u8 0,.int .u8 0,.int .u8 0,.int .u8 0,.int .u8 0,.int .u8 0,.int .u8 0,.int .u8 0])
 | _=>none
def T1:List TypeId := [3,4,5,9,22,23,24,26,27,28,30,32,34,35,37,39,62,97,99,101,104,106,108,333,335,336]
def L1:List (String×DataW Unit) := [("unicode/utf8.acceptRanges",Rows.laid_unicode_utf8_acceptRanges),("unicode/utf8.first",Rows.laid_unicode_utf8_first)]
theorem Qsr:Q9y Tryz.prog T1=true:=by kernel_rfl
theorem Z02:laidOutB Tryz.prog=true:=by kernel_rfl
set_option maxRecDepth 100000 in
theorem Qmq:Q89 Rows.laid_unicode_utf8_first=some (Go.Pinned.utf8FirstZ.map fun (n:Nat) => .int .u8 (n:Int)):=by kernel_rfl
theorem Qzp (W:World) (h:laidMetH Tryz.prog L1 W):GlobOK G1 ⟨fun _=>none,fun _=>False⟩ [] W:=by
 refine Qhl (laid:=L1) Qsr (fun g cs hg=>?_) h
 match g,hg with
 | 1,hg=>cases hg;exact ⟨"unicode/utf8.first",Rows.laid_unicode_utf8_first,333,.tail _ (.head _),by kernel_rfl,by kernel_rfl,by decide,Qmq⟩
 | 2,hg=>cases hg;exact ⟨"unicode/utf8.acceptRanges",Rows.laid_unicode_utf8_acceptRanges,336,.head _,by kernel_rfl,by kernel_rfl,by decide,by kernel_rfl⟩
 | 0,hg=>cases hg
 | n+3,hg=>cases hg
theorem Zcx:ownKnob Tryz.prog.godebug=none:=by kernel_rfl
def Qww (vs:Array Value):Obj→Obj
 | .cells _ t frozen => .cells vs t frozen
 | o=>o
def Qxo:Array Value := #[.int .u8 128,.int .u8 191,.int .u8 160,.int .u8 191,.int .u8 128,.int .u8 159,.int .u8 144,.int .u8 191,.int .u8 128,.int .u8 143,.int .u8 0,.int .u8 0,.int .u8 0,.int .u8 0,.int .u8 0,.int .u8 0,.int .u8 0,.int .u8 0,.int .u8 0,.int .u8 0,.int .u8 0,.int .u8 0,.int .u8 0,.int .u8 0,.int .u8 0,.int .u8 0,.int .u8 0,.int .u8 0,.int .u8 0,.int .u8 0,.int .u8 0,.int .u8 0]
def Qwl:Array Value:=(Go.Pinned.utf8FirstZ.map fun (n:Nat)=>Value.int .u8 (n:Int)).toArray
noncomputable def Qbb (os:Os):World:=
 { World.holding Tryz.prog os ⟨#[],#[],[]⟩ with heap:=(((World.holding Tryz.prog os ⟨#[],#[],[]⟩).heap.modify 1 (Qww Qwl)).modify 2 (Qww Qxo)) }
end
end Go.Av
namespace Go.Av
noncomputable section
@[reducible] def cUU (p:Int×Int):List PV := [.int .u8 p.1,.int .u8 p.2]
def Ze6:List (Int×Int) := [(128,191),(160,191),(128,159),(144,191),(128,143),(0,0),(0,0),(0,0),(0,0),(0,0),(0,0),(0,0),(0,0),(0,0),(0,0),(0,0)]
end
end Go.Av
namespace Go.Av
noncomputable section
open Go.Proofs
set_option maxRecDepth 1000000
noncomputable def Qzd (f:Nat):Option CFunc:=(Qyl[f]?).join
def AllOk (P:Program):Nat→List (Option CFunc)→Prop
 | _,[]=>True
 | n,none::r=>AllOk P (n+1) r
 | n,some c::r=>Q0y P n c=true∧AllOk P (n+1) r
theorem okE {P:Program} {n:Nat}:AllOk P n []:=trivial
theorem okN {P:Program} {n:Nat} {r:List (Option CFunc)} (h:AllOk P (n+1) r):AllOk P n (none::r):=h
theorem okS {P:Program} {n:Nat} {c:CFunc} {r:List (Option CFunc)} (hc:Q0y P n c=true) (h:AllOk P (n+1) r):AllOk P n (some c::r):=⟨hc,h⟩
theorem AllOk.spec {P:Program}:∀ (l:List (Option CFunc)) (n:Nat),AllOk P n l→∀ i c,l[i]? = some (some c)→Q0y P (n+i) c=true
 | [],n,h,i,c,hi=>by simp at hi
 | none::r,n,h,i,c,hi=>by
  cases i with
  | zero=>simp at hi
  | succ i=>have:=AllOk.spec r (n+1) h i c (by simpa using hi);rwa [show n+(i+1)=n+1+i by omega]
 | some d::r,n,h,i,c,hi=>by
  cases i with
  | zero=>simp at hi;subst hi;exact h.1
  | succ i=>have:=AllOk.spec r (n+1) h.2 i c (by simpa using hi);rwa [show n+(i+1)=n+1+i by omega]
theorem all1:AllOk Tryz.prog 0 Qyl:=(okN (okN (okN (okN (okS k4 (okN (okS k6 (okS k7 (okN (okS k9 (okS k10 (okS k11 (okS k12 (okN (okN (okS k15 (okS k16 (okS k17 (okS k18 (okN (okN (okN (okN (okS k23 (okS k24 (okS k25 (okS k26 (okS k27 (okS k28 (okS k29 (okS k30 (okS k31 (okS k32 (okS k33 (okS k34 (okS k35 (okS k36 (okN (okS k38 (okS k39 (okS k40 (okS k41 (okS k42 (okN (okN (okS k45 (okS k46 (okS k47 (okS k48 (okS k49 (okS k50 (okS k51 (okS k52 (okS k53 (okS k54 (okS k55 (okS k56 (okS k57 (okS k58 (okS k59 (okS k60 (okS k61 (okS k62 (okS k63 (okS k64 (okS k65 (okS k66 (okS k67 (okS k68 (okS k69 (okS k70 (okS k71 (okS k72 (okS k73 (okS k74 (okS k75 (okS k76 (okS k77 (okS k78 (okN (okS k80 (okS k81 (okS k82 (okS k83 (okS k84 (okS k85 (okS k86 (okS k87 (okN (okS k89 (okS k90 (okS k91 (okS k92 (okS k93 (okS k94 (okS k95 (okS k96 (okS k97 (okS k98 (okS k99 (okS Z4g (okS Z3j (okS Qyr (okS Qyx (okS Z35 (okS Z38 (okS Z8i (okS Z17 (okS Zfk (okS Zfa (okS Zct (okS Zdu (okS Zgp (okS Z84 (okS Z3b (okS Zfi (okS Z27 (okS Zig (okS Z8x (okS Z4t (okS Z4y (okS Z4h (okS Z9j (okS Z7q (okS Z6c (okS Z3c (okS Zd0 (okS Z9g (okS Qzi (okS Zar (okS Z3r (okS Z9b (okS Z8j (okS Z8m (okS Zb5 (okS Zju (okS Zaj (okS Zdh (okS Zcy (okS Zji (okS Zhn (okS Zjq (okS Zjw (okS Zjg (okS Z39 (okS Zbp (okS Z1w (okS Z9h (okS Z9y (okS Zd8 (okS Zgy (okS Zeh (okS Zdy (okS Zbq (okS Z13 (okS Z2v (okS Z57 (okS Zcs (okS Z18 (okS Z66 (okS Z1h (okS Z2i (okS Z77 (okS Z14 (okS Z2w (okS Z2k (okS Zam (okS Z7b (okS Zch (okS Z9i (okS Z4m (okS Z6s (okS Ze7 (okS Ziw (okS Zgg (okS Zis (okS Zeg (okS Zeq (okS Zio (okS Zhy (okS Zk1 (okS Z1e (okS Z5g (okS Z7h (okS Zkf (okN (okS Ze4 (okS Zhv (okS Zd6 (okS Zje (okS Zh1 (okS Zek (okS Zdn (okS Zkj (okS Z4q (okS Zaz (okS Z63 (okS Z32 (okS Zco (okS Zgd (okS Zjn (okS Zin (okS Zhj (okS Ze3 (okS Zde (okS Zdd (okS Zfy (okS Z0n (okS Zhq (okS Zkc (okS Zhp (okS Zj2 (okS Zev (okS Zi4 (okS Ziv (okS Zih (okS Zg6 (okS Z4b (okS Zaa (okS Z75 (okS Z8v (okS Zb4 (okS Zb0 (okS Z97 (okS Z9w (okS Ziy (okS Zdw (okN (okS Zd5 (okS Zh4 (okS Zdf (okS Zgu (okS Zg5 (okS Zdt (okS Zh5 (okS Ze8 (okS Zkb (okS Ze9 (okS Ze1 (okS Zgr (okS Zf3 (okS Zee (okS Zez (okS Zd3 (okS Zed (okS Zj9 (okS Zha (okS Zfv (okS Zce (okS Z2e (okS Z2q (okS Z4u (okS Zfl (okS Zjk (okS Zi9 (okS Zjc (okS Zil (okS Zie (okS Zfx (okS Zgx (okS Zft (okS Zg1 (okS Zdj (okS Zfr (okS Zd7 (okS Zdb (okS Zdr (okS Zir (okS Zk9 (okS Zid (okS Zjz (okS Qik (okS Zk5 (okS Zik (okS Zgl (okS Zii (okS Z8f (okS Zf7 (okS Zdl (okS Zkn (okS Zby (okS Z7r (okS Zav (okS Zjx (okS Zfe (okS Zeo (okS Zdm (okS Zgf (okS Zi6 (okS Zf9 (okS Zdp (okS Zg7 (okS Zew (okS Zen (okS Zhx (okS Zgc (okS Zdv (okS Zim (okS Z0s (okS Z88 (okS Zhd (okS Zf2 (okS Qys (okS Zhe (okS Zep (okS Zdz (okS Zej (okS Zdq (okS Zgk (okS Zfo (okS Z2j (okS Qwp (okS Ziq (okS Zdx (okS Zea (okS Zhr (okS Zjh (okS Zi5 (okS Zif (okS Zip (okS Zhh (okS Zeu (okS Zcv (okS Zit (okS Zjs (okS Zj3 (okS Zi2 (okS Zf6 (okS Zfu (okS Ze5 (okS Qyv (okS Z22 (okS Zdc (okS Zg4 (okS Zff (okS Zga (okS Zfp (okS Ze0 (okS Zh9 (okS Zj6 (okS Zjd (okS Zes (okS Zjv (okS Qws (okS Zec (okS Zkg (okS Zh2 (okS Zdo (okS Zib (okS Zk8 (okS Zhu (okS Zgm (okS Zki (okS Zeb (okS Zi0 (okS Zj4 (okS Zj7 (okS Zia (okS Zhf (okS Zda (okS Zja (okS Ze2 (okS Zfc (okS Zfm (okS Zgz (okS Zke (okS Zh6 (okS Zjb (okS Zds (okS Zex (okS Zjf (okS Zk0 (okS Zgj (okS Zey (okS Zjr (okS Zij (okS Zjt (okS Zg2 (okS Zf0 (okS Zf5 (okS Zgb (okS Zi3 (okS Zh7 (okS Zgh (okS Zjj (okS Zgv (okS Zdk (okS Zfb (okS Zi8 (okS Zk4 (okS Zh3 (okS Zhm (okS Zf1 (okS Zi1 (okS Zj8 (okS Zhi (okS Zfq (okS Zjy (okS Zg0 (okS Zk7 (okS Zei (okS Zix (okS Zfg (okS Zel (okS Zho (okS Zgn (okS Zet (okS Zht (okS Zcz (okS Zgo (okS Zer (okS Zjl (okS Zhl (okS Zhc (okS Zfs (okS Zd1 (okS Zd4 (okS Zhw (okS Zj0 (okS Zkl (okS Zjp (okS Ziu (okS Zge (okS Zjo (okS Ziz (okN (okS Zd9 (okN (okN (okS Zd2 (okS Zgi (okS Zhb (okS Zfn (okS Zfw (okS Zgs (okS Zkd (okS Zcu (okS Zhz (okS Zj1 (okS Zgw (okN (okN (okN (okN (okN (okN (okN (okN (okN (okN (okN (okN (okN (okN (okN (okN (okN (okS Zkk (okN (okS Zfd (okS Zf8 (okS Zdi (okS Zka (okS Zh0 (okS Qzu (okS Z6k (okN (okS Zc1 (okN (okS Z81 (okN (okS Zhk okE))))))))))))))))))))))))))))))))))))))))))))))))))))))))))))))))))))))))))))))))))))))))))))))))))))))))))))))))))))))))))))))))))))))))))))))))))))))))))))))))))))))))))))))))))))))))))))))))))))))))))))))))))))))))))))))))))))))))))))))))))))))))))))))))))))))))))))))))))))))))))))))))))))))))))))))))))))))))))))))))))))))))))))))))))))))))))))))))))))))))))))))))))))))))))))))))))))))))))))))))))))))))))))))))))))))))))))))))))))))))))))))))))))))))))))))))))))))))
theorem Qtq (f:Nat) (cf:CFunc) (h:Qzd f=some cf):Q0y Tryz.prog f cf=true:=by
 unfold Qzd at h
 have:Qyl[f]? = some (some cf):=by
  cases hc:Qyl[f]? with
  | none=>rw [hc] at h;cases h
  | some o=>rw [hc] at h;simp at h;rw [h]
 simpa using all1.spec Qyl 0 f cf this
noncomputable def kn1:Know2:=⟨Qzd,fun _ _=>none,fun _ _ _=>none⟩
theorem Qe8:KnowOk2 Tryz.prog G1 kn1:=⟨Qtq,fun _ _ _ h=>(by cases h),fun _ _ _ _ h=>(by cases h)⟩
end
end Go.Av
