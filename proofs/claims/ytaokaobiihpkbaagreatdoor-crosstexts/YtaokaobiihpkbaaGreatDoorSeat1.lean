/- Part of the proof of CrossTexts: for every input the law returns true; no condition. -/
import Derived.Test.YtaokaobiihpkbaaGreatDoorAvBridges
import Derived.Test.YtaokaobiihpkbaaGreatDoorCards
import Derived.Test.YtaokaobiihpkbaaGreatDoorTie
import Derived.KernelRfl
import Derived.Test.YtaokaobiihpkbaaGreatDoorAvOwn
import Derived.Test.YtaokaobiihpkbaaGreatDoorChks
import Derived.Test.YtaokaobiihpkbaaGreatDoorAvClosed4
set_option linter.all false
namespace Go.Av
noncomputable section
open Go.Proofs Go.Proofs.YtaokaobiihpkbaaGreatDoor
def G1:Nat→Option (List PV)
 | 1=>some (Go.Pinned.utf8FirstZ.map fun (n:Nat) => .int .u8 (n:Int))
 | 2=>some ([.int .u8 128,.int .u8 191,.int .u8 160,.int .u8 191,.int .u8 128,.int .u8 159,.int .u8 144,.int .u8 191,.int .u8 128,.int .u8 143,.int .u8 0,.int .u8 0,.int .u8 0,.int .u8 0,.int .u8 0,.int .u8 0,.int .u8 0,.int .u8 0,.int .u8 0,.int .u8 0,.int .u8 0,.int .u8 0,.int .u8 0,.int .u8 0,.int .u8 0,.int .u8 0,.int .u8 0,.int .u8 0,.int .u8 0,.int .u8 0,.int .u8 0,.int .u8 0])
 | _=>none
def T1:List TypeId := [3,4,5,9,22,23,24,26,27,28,30,32,34,35,37,39,62,97,99,101,104,106,108,333,335,336]
def L1:List (String×DataW Unit) := [("unicode/utf8.acceptRanges",Rows.laid_unicode_utf8_acceptRanges),("unicode/utf8.first",Rows.laid_unicode_utf8_first)]
theorem Quy:Qai Tryz.prog T1=true:=by kernel_rfl
theorem Z0i:laidOutB Tryz.prog=true:=by kernel_rfl
set_option maxRecDepth 100000 in
theorem Qne:Q8i Rows.laid_unicode_utf8_first=some (Go.Pinned.utf8FirstZ.map fun (n:Nat) => .int .u8 (n:Int)):=by kernel_rfl
theorem Z0o (W:World) (h:laidMetH Tryz.prog L1 W):GlobOK G1 ⟨fun _=>none,fun _=>False⟩ [] W:=by
 refine Qjf (laid:=L1) Quy (fun g cs hg=>?_) h
 match g,hg with
 | 1,hg=>cases hg;exact ⟨"unicode/utf8.first",Rows.laid_unicode_utf8_first,333,.tail _ (.head _),by kernel_rfl,by kernel_rfl,by decide,Qne⟩
 | 2,hg=>cases hg;exact ⟨"unicode/utf8.acceptRanges",Rows.laid_unicode_utf8_acceptRanges,336,.head _,by kernel_rfl,by kernel_rfl,by decide,by kernel_rfl⟩
 | 0,hg=>cases hg
 | n+3,hg=>cases hg
theorem Zh3:ownKnob Tryz.prog.godebug=none:=by kernel_rfl
def Qz7 (vs:Array Value):Obj→Obj
 | .cells _ t frozen => .cells vs t frozen
 | o=>o
def Qzs:Array Value := #[.int .u8 128,.int .u8 191,.int .u8 160,.int .u8 191,.int .u8 128,.int .u8 159,.int .u8 144,.int .u8 191,.int .u8 128,.int .u8 143,.int .u8 0,.int .u8 0,.int .u8 0,.int .u8 0,.int .u8 0,.int .u8 0,.int .u8 0,.int .u8 0,.int .u8 0,.int .u8 0,.int .u8 0,.int .u8 0,.int .u8 0,.int .u8 0,.int .u8 0,.int .u8 0,.int .u8 0,.int .u8 0,.int .u8 0,.int .u8 0,.int .u8 0,.int .u8 0]
def Qxu:Array Value:=(Go.Pinned.utf8FirstZ.map fun (n:Nat)=>Value.int .u8 (n:Int)).toArray
noncomputable def Qc4 (os:Os):World:=
 { World.holding Tryz.prog os ⟨#[],#[],[]⟩ with heap:=(((World.holding Tryz.prog os ⟨#[],#[],[]⟩).heap.modify 1 (Qz7 Qxu)).modify 2 (Qz7 Qzs)) }
end
end Go.Av
namespace Go.Av
noncomputable section
@[reducible] def cUU (p:Int×Int):List PV := [.int .u8 p.1,.int .u8 p.2]
def Zkc:List (Int×Int) := [(128,191),(160,191),(128,159),(144,191),(128,143),(0,0),(0,0),(0,0),(0,0),(0,0),(0,0),(0,0),(0,0),(0,0),(0,0),(0,0)]
end
end Go.Av
namespace Go.Av
noncomputable section
open Go.Proofs
set_option maxRecDepth 1000000
noncomputable def Z1e (f:Nat):Option CFunc:=(Qyy[f]?).join
def AllOk (P:Program):Nat→List (Option CFunc)→Prop
 | _,[]=>True
 | n,none::r=>AllOk P (n+1) r
 | n,some c::r=>Q1s P n c=true∧AllOk P (n+1) r
theorem okE {P:Program} {n:Nat}:AllOk P n []:=trivial
theorem okN {P:Program} {n:Nat} {r:List (Option CFunc)} (h:AllOk P (n+1) r):AllOk P n (none::r):=h
theorem okS {P:Program} {n:Nat} {c:CFunc} {r:List (Option CFunc)} (hc:Q1s P n c=true) (h:AllOk P (n+1) r):AllOk P n (some c::r):=⟨hc,h⟩
theorem AllOk.spec {P:Program}:∀ (l:List (Option CFunc)) (n:Nat),AllOk P n l→∀ i c,l[i]? = some (some c)→Q1s P (n+i) c=true
 | [],n,h,i,c,hi=>by simp at hi
 | none::r,n,h,i,c,hi=>by
  cases i with
  | zero=>simp at hi
  | succ i=>have:=AllOk.spec r (n+1) h i c (by simpa using hi);rwa [show n+(i+1)=n+1+i by omega]
 | some d::r,n,h,i,c,hi=>by
  cases i with
  | zero=>simp at hi;subst hi;exact h.1
  | succ i=>have:=AllOk.spec r (n+1) h.2 i c (by simpa using hi);rwa [show n+(i+1)=n+1+i by omega]
theorem all1:AllOk Tryz.prog 0 Qyy:=(okN (okN (okN (okS k3 (okN (okN (okS k6 (okS k7 (okS k8 (okS k9 (okS k10 (okS k11 (okS k12 (okS k13 (okS k14 (okS k15 (okN (okS k17 (okS k18 (okS k19 (okS k20 (okS k21 (okS k22 (okS k23 (okS k24 (okS k25 (okS k26 (okS k27 (okS k28 (okS k29 (okS k30 (okS k31 (okS k32 (okS k33 (okS k34 (okS k35 (okS k36 (okS k37 (okS k38 (okS k39 (okS k40 (okS k41 (okS k42 (okS k43 (okS k44 (okS k45 (okS k46 (okS k47 (okS k48 (okS k49 (okS k50 (okS k51 (okS k52 (okS k53 (okS k54 (okS k55 (okS k56 (okS k57 (okS k58 (okS k59 (okS k60 (okS k61 (okS k62 (okS k63 (okS k64 (okS k65 (okS k66 (okS k67 (okS k68 (okS k69 (okS k70 (okS k71 (okS k72 (okS k73 (okS k74 (okS k75 (okS k76 (okS k77 (okS k78 (okS k79 (okS k80 (okS k81 (okS k82 (okS k83 (okS k84 (okS k85 (okS k86 (okS k87 (okS k88 (okS k89 (okS k90 (okS k91 (okS k92 (okS k93 (okS k94 (okS k95 (okS k96 (okS k97 (okS k98 (okS k99 (okS Z5u (okS Zc3 (okS Z05 (okS Z0a (okS Z8n (okS Z4m (okS Zbd (okS Zde (okS Zfg (okS Zi2 (okS Zee (okS Zl2 (okS Zm4 (okS Z9i (okS Z5i (okS Zgl (okS Z9a (okS Zlf (okS Z42 (okS Z3q (okS Z2y (okS Zb7 (okS Z2r (okS Zct (okS Zan (okS Z58 (okS Zhv (okS Zcg (okS Z1c (okS Zbt (okS Z6w (okS Z5w (okS Z2e (okS Z9f (okS Z3u (okS Zm0 (okS Z2q (okS Zjm (okS Zgj (okS Zig (okS Zha (okS Zk0 (okS Zjj (okS Zj4 (okS Z7y (okS Zat (okS Zao (okS Z9x (okS Zc7 (okS Zk8 (okS Zhc (okS Zjw (okS Zg1 (okS Z7q (okS Zd4 (okS Z4h (okS Zd7 (okS Z69 (okS Zdf (okS Z5b (okS Zae (okS Z4b (okS Zce (okS Z2d (okS Z38 (okS Z60 (okS Z5m (okS Zby (okS Z98 (okS Zdw (okS Zbh (okS Zcm (okS Zln (okS Zlz (okS Zhr (okS Zll (okS Zhe (okS Zec (okS Zi0 (okS Zfi (okS Zlh (okS Zbb (okS Z6a (okS Zdh (okS Zm6 (okN (okS Zfj (okS Zi4 (okS Zjl (okS Zg7 (okS Zg2 (okS Zfb (okS Zlg (okS Zi7 (okS Z2j (okS Z8o (okS Z7m (okS Zap (okS Zd1 (okS Zif (okS Zef (okS Zjo (okS Zlo (okS Zhy (okS Zf5 (okS Zh1 (okS Zj7 (okS Z3x (okS Zj6 (okS Zeu (okS Zhz (okS Zel (okS Zjz (okS Zkf (okS Zhw (okS Zhm (okS Zkp (okS Z9c (okS Za9 (okS Z6o (okS Z2w (okS Z4k (okS Zax (okS Zcr (okS Za6 (okS Zf6 (okS Zm5 (okN (okS Zl1 (okS Zfm (okS Zfp (okS Zfy (okS Zl0 (okS Zgp (okS Zk2 (okS Ziz (okS Zg3 (okS Zlj (okS Zip (okS Zj1 (okS Zm2 (okS Zfo (okS Zep (okS Zjb (okS Zfx (okS Zky (okS Zfh (okS Zii (okS Z8h (okS Za3 (okS Zea (okS Z2h (okS Zkq (okS Zej (okS Zem (okS Zgz (okS Zgb (okS Zl7 (okS Zie (okS Zf2 (okS Zjn (okS Zfs (okS Zks (okS Zm1 (okS Zgr (okS Zik (okS Zeh (okS Zf8 (okS Zko (okS Zij (okS Zgn (okS Qjq (okS Zhk (okS Zg4 (okS Zl4 (okS Zjd (okS Z7k (okS Zkm (okS Zlr (okS Zh4 (okS Z5y (okS Z3s (okS Z6b (okS Zhb (okS Zew (okS Zit (okS Zim (okS Zjq (okS Zg5 (okS Zlt (okS Zh8 (okS Zl6 (okS Zga (okS Zji (okS Zh6 (okS Zj9 (okS Zi8 (okS Zgf (okS Zba (okS Z86 (okS Zjk (okS Zho (okS Z08 (okS Zja (okS Zgt (okS Zg9 (okS Zg0 (okS Zki (okS Zkx (okS Zk5 (okS Z4x (okS Qyn (okS Zk6 (okS Zj3 (okS Zh5 (okS Zeg (okS Zlp (okS Zjg (okS Zjr (okS Zh2 (okS Zi6 (okS Zm7 (okS Zhd (okS Zlk (okS Zgo (okS Ziv (okS Zhh (okS Zkg (okS Zhj (okS Zfz (okS Z03 (okS Z40 (okS Zeo (okS Zis (okS Zih (okS Zf0 (okS Zku (okS Zgd (okS Zf3 (okS Zld (okS Zkb (okS Zg6 (okS Zev (okS Qyv (okS Zkl (okS Zfc (okS Zkn (okS Zj2 (okS Zft (okS Zff (okS Zk9 (okS Zjc (okS Zes (okS Zi9 (okS Zgm (okS Zgu (okS Zkh (okS Zek (okS Zl3 (okS Zk3 (okS Zk4 (okS Ziw (okS Zgv (okS Zlb (okS Zil (okS Zhu (okS Ziu (okS Ziy (okS Zl8 (okS Zer (okS Zfv (okS Zgw (okS Ziq (okS Zir (okS Zkv (okS Zjp (okS Zf7 (okS Zic (okS Zed (okS Zkk (okS Zkr (okS Zgc (okS Zfl (okS Zio (okS Zhq (okS Zg8 (okS Zix (okS Zke (okS Zhf (okS Zge (okS Zhi (okS Zia (okS Zgs (okS Zje (okS Zlq (okS Zkw (okS Zk7 (okS Zi3 (okS Zhs (okS Zhg (okS Zeb (okS Zib (okS Zlc (okS Zfq (okS Zen (okS Zf9 (okS Zgq (okS Zli (okS Zgh (okS Zid (okS Zju (okS Zet (okS Zhp (okS Zei (okS Zkd (okS Zfd (okS Zgy (okS Zgi (okS Zf4 (okS Zfk (okS Zlx (okS Zka (okS Zez (okS Zlm (okS Zlw (okN (okS Zi1 (okN (okN (okS Zht (okS Zhl (okS Zgg (okS Zjs (okS Zj5 (okS Zj0 (okS Zi5 (okS Zjf (okS Zjv (okS Zle (okS Zjy (okN (okN (okN (okN (okN (okN (okN (okN (okN (okN (okN (okN (okN (okN (okN (okN (okN (okS Zk1 (okN (okS Zhn (okS Zly (okS Zh7 (okS Zgk (okS Zh9 (okS Z0s (okS Z3o (okN (okS Z68 (okN (okS Z55 (okN (okS Zfr okE))))))))))))))))))))))))))))))))))))))))))))))))))))))))))))))))))))))))))))))))))))))))))))))))))))))))))))))))))))))))))))))))))))))))))))))))))))))))))))))))))))))))))))))))))))))))))))))))))))))))))))))))))))))))))))))))))))))))))))))))))))))))))))))))))))))))))))))))))))))))))))))))))))))))))))))))))))))))))))))))))))))))))))))))))))))))))))))))))))))))))))))))))))))))))))))))))))))))))))))))))))))))))))))))))))))))))))))))))))))))))))))))))))))))))))))))))))))))
theorem Qvb (f:Nat) (cf:CFunc) (h:Z1e f=some cf):Q1s Tryz.prog f cf=true:=by
 unfold Z1e at h
 have:Qyy[f]? = some (some cf):=by
  cases hc:Qyy[f]? with
  | none=>rw [hc] at h;cases h
  | some o=>rw [hc] at h;simp at h;rw [h]
 simpa using all1.spec Qyy 0 f cf this
noncomputable def kn1:Know2:=⟨Z1e,fun _ _=>none,fun _ _ _=>none⟩
theorem Qfo:KnowOk2 Tryz.prog G1 kn1:=⟨Qvb,fun _ _ _ h=>(by cases h),fun _ _ _ _ h=>(by cases h)⟩
end
end Go.Av
