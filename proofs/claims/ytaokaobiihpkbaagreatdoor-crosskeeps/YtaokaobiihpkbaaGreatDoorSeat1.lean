/- Part of the proof of CrossKeeps: for every input the law returns true; no condition. -/
import Derived.Test.YtaokaobiihpkbaaGreatDoorAvBridges
import Derived.Test.YtaokaobiihpkbaaGreatDoorCards
import Derived.Test.YtaokaobiihpkbaaGreatDoorTie
import Derived.KernelRfl
import Derived.Test.YtaokaobiihpkbaaGreatDoorAvOwn
import Derived.Test.YtaokaobiihpkbaaGreatDoorChks
import Derived.Test.YtaokaobiihpkbaaGreatDoorAvClosed4
set_option linter.all false
namespace Go.Av
noncomputable section
open Go.Proofs Go.Proofs.YtaokaobiihpkbaaGreatDoor
def G1:Nat→Option (List PV)
 | 1=>some (Go.Pinned.utf8FirstZ.map fun (n:Nat) => .int .u8 (n:Int))
 | 2=>some ([.int .u8 128,.int .u8 191,.int .u8 160,.int .u8 191,.int .u8 128,.int .u8 159,.int .u8 144,.int .u8 191,.int .u8 128,.int .u8 143,.int .u8 0,.int .u8 0,.int .u8 0,.int .u8 0,.int .u8 0,.int .u8 0,.int .u8 0,.int .u8 0,.int .u8 0,.int .u8 0,.int .u8 0,.int .u8 0,.int .u8 0,.int .u8 0,.int .u8 0,.int .u8 0,.int .u8 0,.int .u8 0,.int .u8 0,.int .u8 0,.int .u8 0,.int .u8 0])
 | _=>none
def T1:List TypeId := [3,4,5,9,22,23,24,26,27,28,30,32,34,35,37,39,62,97,99,101,104,106,108,333,335,336]
def L1:List (String×DataW Unit) := [("unicode/utf8.acceptRanges",Rows.laid_unicode_utf8_acceptRanges),("unicode/utf8.first",Rows.laid_unicode_utf8_first)]
theorem Qw3:Qba Tryz.prog T1=true:=by kernel_rfl
theorem Z2j:laidOutB Tryz.prog=true:=by kernel_rfl
set_option maxRecDepth 100000 in
theorem Qo7:Q9s Rows.laid_unicode_utf8_first=some (Go.Pinned.utf8FirstZ.map fun (n:Nat) => .int .u8 (n:Int)):=by kernel_rfl
theorem Z2z (W:World) (h:laidMetH Tryz.prog L1 W):GlobOK G1 ⟨fun _=>none,fun _=>False⟩ [] W:=by
 refine Qj0 (laid:=L1) Qw3 (fun g cs hg=>?_) h
 match g,hg with
 | 1,hg=>cases hg;exact ⟨"unicode/utf8.first",Rows.laid_unicode_utf8_first,333,.tail _ (.head _),by kernel_rfl,by kernel_rfl,by decide,Qo7⟩
 | 2,hg=>cases hg;exact ⟨"unicode/utf8.acceptRanges",Rows.laid_unicode_utf8_acceptRanges,336,.head _,by kernel_rfl,by kernel_rfl,by decide,by kernel_rfl⟩
 | 0,hg=>cases hg
 | n+3,hg=>cases hg
theorem Zij:ownKnob Tryz.prog.godebug=none:=by kernel_rfl
def Qzt (vs:Array Value):Obj→Obj
 | .cells _ t frozen => .cells vs t frozen
 | o=>o
def Z1b:Array Value := #[.int .u8 128,.int .u8 191,.int .u8 160,.int .u8 191,.int .u8 128,.int .u8 159,.int .u8 144,.int .u8 191,.int .u8 128,.int .u8 143,.int .u8 0,.int .u8 0,.int .u8 0,.int .u8 0,.int .u8 0,.int .u8 0,.int .u8 0,.int .u8 0,.int .u8 0,.int .u8 0,.int .u8 0,.int .u8 0,.int .u8 0,.int .u8 0,.int .u8 0,.int .u8 0,.int .u8 0,.int .u8 0,.int .u8 0,.int .u8 0,.int .u8 0,.int .u8 0]
def Z03:Array Value:=(Go.Pinned.utf8FirstZ.map fun (n:Nat)=>Value.int .u8 (n:Int)).toArray
noncomputable def Qeu (os:Os):World:=
 { World.holding Tryz.prog os ⟨#[],#[],[]⟩ with heap:=(((World.holding Tryz.prog os ⟨#[],#[],[]⟩).heap.modify 1 (Qzt Z03)).modify 2 (Qzt Z1b)) }
end
end Go.Av
namespace Go.Av
noncomputable section
@[reducible] def cUU (p:Int×Int):List PV := [.int .u8 p.1,.int .u8 p.2]
def Zml:List (Int×Int) := [(128,191),(160,191),(128,159),(144,191),(128,143),(0,0),(0,0),(0,0),(0,0),(0,0),(0,0),(0,0),(0,0),(0,0),(0,0),(0,0)]
end
end Go.Av
namespace Go.Av
noncomputable section
open Go.Proofs
set_option maxRecDepth 1000000
noncomputable def Z2y (f:Nat):Option CFunc:=(Qz8[f]?).join
def AllOk (P:Program):Nat→List (Option CFunc)→Prop
 | _,[]=>True
 | n,none::r=>AllOk P (n+1) r
 | n,some c::r=>Q29 P n c=true∧AllOk P (n+1) r
theorem okE {P:Program} {n:Nat}:AllOk P n []:=trivial
theorem okN {P:Program} {n:Nat} {r:List (Option CFunc)} (h:AllOk P (n+1) r):AllOk P n (none::r):=h
theorem okS {P:Program} {n:Nat} {c:CFunc} {r:List (Option CFunc)} (hc:Q29 P n c=true) (h:AllOk P (n+1) r):AllOk P n (some c::r):=⟨hc,h⟩
theorem AllOk.spec {P:Program}:∀ (l:List (Option CFunc)) (n:Nat),AllOk P n l→∀ i c,l[i]? = some (some c)→Q29 P (n+i) c=true
 | [],n,h,i,c,hi=>by simp at hi
 | none::r,n,h,i,c,hi=>by
  cases i with
  | zero=>simp at hi
  | succ i=>have:=AllOk.spec r (n+1) h i c (by simpa using hi);rwa [show n+(i+1)=n+1+i by omega]
 | some d::r,n,h,i,c,hi=>by
  cases i with
  | zero=>simp at hi;subst hi;exact h.1
  | succ i=>have:=AllOk.spec r (n+1) h.2 i c (by simpa using hi);rwa [show n+(i+1)=n+1+i by omega]
theorem all1:AllOk Tryz.prog 0 Qz8:=(okN (okN (okN (okN (okN (okS k5 (okS k6 (okS k7 (okS k8 (okS k9 (okS k10 (okN (okS k12 (okN (okN (okS k15 (okS k16 (okS k17 (okS k18 (okS k19 (okS k20 (okS k21 (okS k22 (okS k23 (okS k24 (okS k25 (okS k26 (okS k27 (okS k28 (okS k29 (okS k30 (okS k31 (okS k32 (okS k33 (okS k34 (okS k35 (okS k36 (okN (okS k38 (okS k39 (okS k40 (okS k41 (okS k42 (okS k43 (okS k44 (okS k45 (okS k46 (okS k47 (okS k48 (okS k49 (okS k50 (okS k51 (okS k52 (okS k53 (okS k54 (okS k55 (okS k56 (okS k57 (okS k58 (okS k59 (okS k60 (okS k61 (okS k62 (okS k63 (okS k64 (okS k65 (okS k66 (okS k67 (okS k68 (okS k69 (okS k70 (okS k71 (okS k72 (okS k73 (okS k74 (okS k75 (okS k76 (okS k77 (okS k78 (okN (okS k80 (okS k81 (okS k82 (okS k83 (okS k84 (okS k85 (okS k86 (okS k87 (okS k88 (okS k89 (okS k90 (okS k91 (okS k92 (okS k93 (okS k94 (okS k95 (okS k96 (okS k97 (okS k98 (okS k99 (okS Z7t (okS Zfl (okS Z1e (okS Z1l (okS Zc5 (okS Zd4 (okS Zey (okS Zcc (okS Z8h (okS Za0 (okS Zd7 (okS Zd5 (okS Zc0 (okS Za3 (okS Zdc (okS Zk2 (okS Zab (okS Zi4 (okS Z53 (okS Zdi (okS Z6d (okS Z89 (okS Z77 (okS Zf3 (okS Zcn (okS Z7r (okS Zlv (okS Zef (okS Z1u (okS Zfd (okS Zei (okS Z5h (okS Zau (okS Z7f (okS Z3r (okS Zmu (okS Z7z (okS Qu5 (okS Qzb (okS Qrz (okS Qzz (okS Zdp (okS Zfc (okS Z7g (okS Zf6 (okS Zej (okS Z5k (okS Zbd (okS Z4c (okS Zn0 (okS Zl5 (okS Zgr (okS Zjs (okS Z7s (okS Zev (okS Z5m (okS Z3z (okS Ze5 (okS Z5z (okS Z6b (okS Zcd (okS Z5d (okS Z37 (okS Z3g (okS Zdw (okS Zcz (okS Zbb (okS Z6g (okS Z4a (okS Z3u (okS Z7c (okS Zdr (okS Zlf (okS Zj3 (okS Zhf (okS Zjk (okS Zjr (okS Zh9 (okS Zj1 (okS Zfx (okS Z62 (okS Zea (okS Zdd (okS Zax (okS Zk8 (okN (okS Zn5 (okS Zhp (okS Zl9 (okS Zio (okS Zjm (okS Zm4 (okS Zi0 (okS Zim (okS Z81 (okS Zam (okS Zb9 (okS Zdh (okS Z5a (okS Zmj (okS Znf (okS Zmf (okS Zg4 (okS Zhl (okS Zg5 (okS Zgu (okS Zid (okS Z8o (okS Zlh (okS Zlb (okS Zjb (okS Zia (okS Zms (okS Zmx (okS Zmm (okS Zn8 (okS Zi5 (okS Z42 (okS Z7h (okS Z5u (okS Z66 (okS Z4g (okS Z6m (okS Zfp (okS Zae (okS Zmp (okS Zh6 (okN (okS Zg8 (okS Zm8 (okS Zhy (okS Zik (okS Zjz (okS Zmc (okS Zk5 (okS Zmy (okS Zmr (okS Zhh (okS Zjp (okS Zgj (okS Zl4 (okS Zmh (okS Zn3 (okS Zkc (okS Zn6 (okS Zj7 (okS Zj8 (okS Zlq (okS Zee (okS Zca (okS Zb7 (okS Zbi (okS Zgv (okS Zj5 (okS Zkw (okS Zmd (okS Zgx (okS Zjt (okS Zlr (okS Zjx (okS Zlw (okS Znb (okS Zfz (okS Zn4 (okS Zie (okS Zjw (okS Zjc (okS Zh8 (okS Zgo (okS Zgy (okS Zki (okS Qkk (okS Zgm (okS Zke (okS Zlp (okS Zkj (okS Z8w (okS Zhe (okS Zky (okS Zic (okS Z8b (okS Zcp (okS Z9w (okS Zgt (okS Zme (okS Zmk (okS Zk6 (okS Zh3 (okS Zm6 (okS Zgq (okS Ziv (okS Zhv (okS Zi6 (okS Zis (okS Zhw (okS Zn7 (okS Zl1 (okS Zm3 (okS Z91 (okS Z3k (okS Zkr (okS Zma (okS Z1i (okS Zmz (okS Zkl (okS Zl8 (okS Zm5 (okS Zj2 (okS Znc (okS Zg2 (okS Z99 (okS Qzo (okS Zkh (okS Zgd (okS Zhd (okS Zi8 (okS Zjn (okS Zm0 (okS Zin (okS Zii (okS Zg0 (okS Zj0 (okS Zhq (okS Zgk (okS Zjy (okS Zfw (okS Zhc (okS Zj4 (okS Zix (okS Zgn (okS Z1f (okS Z8i (okS Zl3 (okS Zi7 (okS Zjh (okS Zj6 (okS Zgl (okS Zgb (okS Zk7 (okS Zkv (okS Zmi (okS Zhj (okS Zlu (okS Z17 (okS Zko (okS Zjl (okS Zga (okS Zkq (okS Zm2 (okS Zm1 (okS Zjq (okS Zh1 (okS Zkx (okS Zhr (okS Zkb (okS Zge (okS Zji (okS Zka (okS Zgg (okS Zfv (okS Zgf (okS Zit (okS Zht (okS Zha (okS Zjg (okS Zgp (okS Zmq (okS Zmb (okS Zk3 (okS Zhx (okS Zig (okS Zg7 (okS Zkg (okS Ziz (okS Zmo (okS Zh2 (okS Zn1 (okS Zgi (okS Zi9 (okS Zla (okS Zll (okS Zld (okS Zjv (okS Zle (okS Zmn (okS Zjj (okS Zkf (okS Zlc (okS Zhu (okS Zlx (okS Zlz (okS Znd (okS Zjd (okS Zlo (okS Zkk (okS Zh7 (okS Zln (okS Zk4 (okS Zg3 (okS Zku (okS Zjo (okS Ziw (okS Zib (okS Zfy (okS Zm7 (okS Zn2 (okS Zl6 (okS Zh5 (okS Zkn (okS Zh0 (okS Zje (okS Ziu (okS Zjf (okS Zmg (okS Zl2 (okS Zmt (okS Zhb (okS Zhz (okS Zhk (okS Zil (okS Zho (okS Zi1 (okS Zja (okS Zhn (okS Zli (okN (okS Zkm (okN (okN (okS Zir (okS Zne (okS Zih (okS Zly (okS Zkd (okS Zlm (okS Zkp (okS Zna (okS Zm9 (okS Zlg (okS Zi3 (okN (okN (okN (okN (okN (okN (okN (okN (okN (okN (okN (okN (okN (okN (okN (okN (okN (okS Zj9 (okN (okS Zkz (okS Zmw (okS Zlj (okS Ziq (okS Zgs (okS Z2b (okS Z9y (okN (okS Zbz (okN (okS Zf9 (okN (okS Ziy okE))))))))))))))))))))))))))))))))))))))))))))))))))))))))))))))))))))))))))))))))))))))))))))))))))))))))))))))))))))))))))))))))))))))))))))))))))))))))))))))))))))))))))))))))))))))))))))))))))))))))))))))))))))))))))))))))))))))))))))))))))))))))))))))))))))))))))))))))))))))))))))))))))))))))))))))))))))))))))))))))))))))))))))))))))))))))))))))))))))))))))))))))))))))))))))))))))))))))))))))))))))))))))))))))))))))))))))))))))))))))))))))))))))))))))))))))))))))))
theorem Qyi (f:Nat) (cf:CFunc) (h:Z2y f=some cf):Q29 Tryz.prog f cf=true:=by
 unfold Z2y at h
 have:Qz8[f]? = some (some cf):=by
  cases hc:Qz8[f]? with
  | none=>rw [hc] at h;cases h
  | some o=>rw [hc] at h;simp at h;rw [h]
 simpa using all1.spec Qz8 0 f cf this
noncomputable def kn1:Know2:=⟨Z2y,fun _ _=>none,fun _ _ _=>none⟩
theorem Qjr:KnowOk2 Tryz.prog G1 kn1:=⟨Qyi,fun _ _ _ h=>(by cases h),fun _ _ _ _ h=>(by cases h)⟩
end
end Go.Av
