/- Part of FromsnNames: the law returns true; no condition. -/
import Derived.Test.YtfgpphgmjcnleaaGreatDoorAvBridges
import Derived.Test.YtfgpphgmjcnleaaGreatDoorCards
import Derived.Test.YtfgpphgmjcnleaaGreatDoorTie
import Derived.KernelRfl
import Derived.Test.YtfgpphgmjcnleaaGreatDoorAvOwn
import Derived.Test.YtfgpphgmjcnleaaGreatDoorChks
import Derived.Test.YtfgpphgmjcnleaaGreatDoorAvClosed4
set_option linter.all false
namespace Go.Av
noncomputable section
open Go.Proofs Go.Proofs.YtfgpphgmjcnleaaGreatDoor
def G1:Nat->Option (List PV)
 | 1=>some (Go.Pinned.utf8FirstZ.map fun (n:Nat) => .int .u8 (n:Int))
 | 2=>some ([.int .u8 128,.int .u8 191,.int .u8 160,.int .u8 191,.int .u8 128,.int .u8 159,.int .u8 144,.int .u8 191,.int .u8 128,.int .u8 143,.int .u8 0,.int .u8 0,.int .u8 0,.int .u8 0,.int .u8 0,.int .u8 0,.int .u8 0,.int .u8 0,.int .u8 0,.int .u8 0,.int .u8 0,.int .u8 0,.int .u8 0,.int .u8 0,.int .u8 0,.int .u8 0,.int .u8 0,.int .u8 0,.int .u8 0,.int .u8 0,.int .u8 0,.int .u8 0])
 | _=>none
def T1:List TypeId := [4,5,317,319,320]
def L1:List (String×DataW Unit) := [("unicode/utf8.acceptRanges",Rows.laid_unicode_utf8_acceptRanges),("unicode/utf8.first",Rows.laid_unicode_utf8_first)]
theorem Qog:Q7z Tryz.prog T1=true:=by kernel_rfl
theorem Qto:laidOutB Tryz.prog=true:=by kernel_rfl
set_option maxRecDepth 100000 in
theorem Qji:Q6z Rows.laid_unicode_utf8_first=some (Go.Pinned.utf8FirstZ.map fun (n:Nat) => .int .u8 (n:Int)):=by kernel_rfl
theorem Qtv (W:World) (h:laidMetH Tryz.prog L1 W):GlobOK G1 ⟨fun _=>none,fun _=>False⟩ [] W:=by
 refine Qef (laid:=L1) Qog (fun g cs hg=>?_) h
 match g,hg with
 | 1,hg=>cases hg;exact ⟨"unicode/utf8.first",Rows.laid_unicode_utf8_first,317,.tail _ (.head _),by kernel_rfl,by kernel_rfl,by decide,Qji⟩
 | 2,hg=>cases hg;exact ⟨"unicode/utf8.acceptRanges",Rows.laid_unicode_utf8_acceptRanges,320,.head _,by kernel_rfl,by kernel_rfl,by decide,by kernel_rfl⟩
 | 0,hg=>cases hg
 | n+3,hg=>cases hg
theorem Z7j:ownKnob Tryz.prog.godebug=none:=by kernel_rfl
def Qrw (vs:Array Value):Obj->Obj
 | .cells _ t frozen => .cells vs t frozen
 | o=>o
def Qrj:Array Value := #[.int .u8 128,.int .u8 191,.int .u8 160,.int .u8 191,.int .u8 128,.int .u8 159,.int .u8 144,.int .u8 191,.int .u8 128,.int .u8 143,.int .u8 0,.int .u8 0,.int .u8 0,.int .u8 0,.int .u8 0,.int .u8 0,.int .u8 0,.int .u8 0,.int .u8 0,.int .u8 0,.int .u8 0,.int .u8 0,.int .u8 0,.int .u8 0,.int .u8 0,.int .u8 0,.int .u8 0,.int .u8 0,.int .u8 0,.int .u8 0,.int .u8 0,.int .u8 0]
def Qrf:Array Value:=(Go.Pinned.utf8FirstZ.map fun (n:Nat)=>Value.int .u8 (n:Int)).toArray
noncomputable def Q9l (os:Os):World:=
 { World.holding Tryz.prog os ⟨#[],#[],[]⟩ with heap:=(((World.holding Tryz.prog os ⟨#[],#[],[]⟩).heap.modify 1 (Qrw Qrf)).modify 2 (Qrw Qrj)) }
end
end Go.Av
namespace Go.Av
noncomputable section
def gtab0:List Int:=Go.Pinned.utf8FirstZ.map fun (n:Nat)=>(n:Int)
theorem Qkw:256=gtab0.length:=by kernel_rfl
theorem Qo8:Go.Pinned.utf8FirstZ.map (fun (n:Nat)=>PV.int .u8 (n:Int))=(Qg (cI .u8) gtab0).flatten:=by kernel_rfl
@[reducible] def cUU (p:Int×Int):List PV := [.int .u8 p.1,.int .u8 p.2]
def gtab1:List (Int×Int) := [(128,191),(160,191),(128,159),(144,191),(128,143),(0,0),(0,0),(0,0),(0,0),(0,0),(0,0),(0,0),(0,0),(0,0),(0,0),(0,0)]
theorem Ql3:16=gtab1.length:=by kernel_rfl
theorem Qnu : [PV.int .u8 128,PV.int .u8 191,PV.int .u8 160,PV.int .u8 191,PV.int .u8 128,PV.int .u8 159,PV.int .u8 144,PV.int .u8 191,PV.int .u8 128,PV.int .u8 143,PV.int .u8 0,PV.int .u8 0,PV.int .u8 0,PV.int .u8 0,PV.int .u8 0,PV.int .u8 0,PV.int .u8 0,PV.int .u8 0,PV.int .u8 0,PV.int .u8 0,PV.int .u8 0,PV.int .u8 0,PV.int .u8 0,PV.int .u8 0,PV.int .u8 0,PV.int .u8 0,PV.int .u8 0,PV.int .u8 0,PV.int .u8 0,PV.int .u8 0,PV.int .u8 0,PV.int .u8 0]=(Qg cUU gtab1).flatten:=by kernel_rfl
end
end Go.Av
namespace Go.Av
noncomputable section
open Go.Proofs
set_option maxRecDepth 1000000
noncomputable def Quc (f:Nat):Option CFunc:=(Qsm[f]?).join
def AllOk (P:Program):Nat->List (Option CFunc)->Prop
 | _,[]=>True
 | n,none::r=>AllOk P (n+1) r
 | n,some c::r=>Jy P n c=true∧AllOk P (n+1) r
theorem okE {P:Program} {n:Nat}:AllOk P n []:=trivial
theorem okN {P:Program} {n:Nat} {r:List (Option CFunc)} (h:AllOk P (n+1) r):AllOk P n (none::r):=h
theorem okS {P:Program} {n:Nat} {c:CFunc} {r:List (Option CFunc)} (hc:Jy P n c=true) (h:AllOk P (n+1) r):AllOk P n (some c::r):=⟨hc,h⟩
theorem AllOk.spec {P:Program}:∀ (l:List (Option CFunc)) (n:Nat),AllOk P n l->∀ i c,l[i]? = some (some c)->Jy P (n+i) c=true
 | [],n,h,i,c,hi=>by simp at hi
 | none::r,n,h,i,c,hi=>by
  cases i with
  | zero=>simp at hi
  | succ i=>have:=AllOk.spec r (n+1) h i c (by simpa using hi);rwa [show n+(i+1)=n+1+i by omega]
 | some d::r,n,h,i,c,hi=>by
  cases i with
  | zero=>simp at hi;subst hi;exact h.1
  | succ i=>have:=AllOk.spec r (n+1) h.2 i c (by simpa using hi);rwa [show n+(i+1)=n+1+i by omega]
theorem all1:AllOk Tryz.prog 0 Qsm:=(okN (okN (okN (okS k3 (okS k4 (okS k5 (okS k6 (okS k7 (okS k8 (okS k9 (okS k10 (okS k11 (okS k12 (okS k13 (okS k14 (okS k15 (okS k16 (okS k17 (okS k18 (okS k19 (okS k20 (okS k21 (okS k22 (okS k23 (okS k24 (okS k25 (okS k26 (okS k27 (okS k28 (okS k29 (okS k30 (okS k31 (okS k32 (okS k33 (okS k34 (okS k35 (okS k36 (okS k37 (okS k38 (okS k39 (okS k40 (okS k41 (okS k42 (okS k43 (okS k44 (okS k45 (okS k46 (okS k47 (okS k48 (okS k49 (okS k50 (okS k51 (okS k52 (okS k53 (okS k54 (okS k55 (okS k56 (okS k57 (okS k58 (okS k59 (okS k60 (okS k61 (okS k62 (okS k63 (okS k64 (okS k65 (okS k66 (okS k67 (okS k68 (okS k69 (okS k70 (okS k71 (okS k72 (okS k73 (okS k74 (okS k75 (okS k76 (okS k77 (okS k78 (okS k79 (okS k80 (okS k81 (okS k82 (okS k83 (okS k84 (okS k85 (okS k86 (okS k87 (okS k88 (okS k89 (okS k90 (okS k91 (okS k92 (okS k93 (okS k94 (okS k95 (okS k96 (okS k97 (okS k98 (okS k99 (okS Z44 (okS Z38 (okS Z7d (okS Qvf (okS Z7a (okS Z74 (okS Z5u (okS Z5v (okS Za6 (okS Qfv (okS Qw4 (okS Z03 (okS Z1s (okS Z04 (okS Z14 (okS Qxm (okS Z0x (okS Qw9 (okS Z4c (okS Qvy (okS Qw2 (okS Qv2 (okS Qyf (okS Qyr (okS Z0f (okS Qz0 (okS Z54 (okS Z7n (okS Z73 (okS Z62 (okS Z4v (okS Qzm (okS Qvd (okS Qxp (okS Qzn (okS Z07 (okS Z3i (okS Quh (okS Z20 (okS Z26 (okS Qxh (okS Z8q (okS Qxq (okS Qu5 (okS Quo (okS Z2d (okS Qvk (okS Z8s (okS Z4x (okS Z4w (okS Z82 (okS Z6w (okS Z8e (okS Zaf (okS Z63 (okS Z4r (okS Qn5 (okS Qtn (okS Qzg (okS Zae (okS Qsw (okS Qqn (okS Qvv (okS Qxa (okS Qyp (okS Z7w (okS Z53 (okS Z50 (okS Zal (okS Z95 (okS Za2 (okS Z8y (okS Z9p (okS Z5p (okS Z6c (okS Z0i (okS Z2s (okS Z6j (okN (okS Qzy (okS Z2w (okS Z2f (okS Qvs (okS Qzz (okS Qyg (okS Z3k (okS Z37 (okS Z2p (okS Qum (okS Qxv (okS Z58 (okS Z5r (okS Z6z (okS Z69 (okS Z9e (okS Z8m (okS Z8k (okS Z5b (okS Z7g (okS Za7 (okS Z7m (okS Z5o (okS Z9t (okS Z5j (okS Z6v (okS Z9z (okS Z7f (okS Z5s (okS Z4u (okS Z8d (okS Qmr (okS Qkd (okS Qih (okS Qpu (okS Qvj (okS Z7h (okS Z5w (okS Z8l (okS Z7x (okS Z7u (okS Qy8 (okS Qz7 (okS Z9a (okS Z7k (okS Z9m (okS Z8w (okS Z9x (okS Z7b (okS Z5n (okS Z96 (okS Z9v (okS Z98 (okS Z6q (okS Z5f (okS Z88 (okS Z64 (okS Z6g (okS Z5a (okS Z8b (okS Za5 (okS Qyn (okS Qvl (okS Z3l (okS Z72 (okN (okS Z77 (okS Z8v (okS Zag (okS Z81 (okS Z60 (okS Z7y (okS Z6s (okS Z6a (okS Z93 (okS Z5t (okS Z59 (okS Z6n (okS Z5z (okS Z80 (okS Z9k (okS Z6i (okS Z8z (okS Z78 (okS Z89 (okS Z8o (okS Z90 (okS Z7o (okS Z8n (okS Zai (okS Z5q (okS Z99 (okS Z9h (okS Z9b (okS Za8 (okS Z91 (okS Z5d (okS Z5x (okS Z6p (okS Z7z (okS Z57 (okS Z8c (okS Qys (okS Z1e (okN (okS Z3c (okS Z8a (okS Z9r (okS Z4y (okS Z55 (okS Z7s (okS Za1 (okS Z4z (okS Z6e (okS Z5i (okS Z85 (okS Z6b (okS Zak (okS Z7c (okS Z8p (okS Zaa (okS Z94 (okS Z52 (okS Z84 (okS Z6k (okS Z7p (okS Zad (okS Z67 (okS Z83 (okS Z9j (okS Z9w (okS Z6t (okS Z5m (okS Z5k (okS Z51 (okS Z6u (okS Z9q (okS Z8h (okS Z76 (okS Z6f (okS Z4a (okS Z7l (okS Z5l (okS Z7t (okS Z66 (okS Zaj (okS Za0 (okS Za3 (okS Z6l (okS Z9d (okS Z9u (okS Z9l (okS Z8u (okS Z9c (okS Z92 (okS Z75 (okS Z8j (okS Z9i (okS Z87 (okS Z9o (okS Z7i (okS Z6r (okS Z56 (okS Z7q (okS Z5h (okS Z7e (okS Za4 (okS Z6o (okS Z6y (okS Zac (okS Z68 (okS Z9g (okS Z71 (okS Z8t (okS Z9y (okS Z6h (okS Z7v (okS Z9s (okS Z4t (okS Z8i (okS Z61 (okS Z79 (okS Z7r (okS Za9 (okS Zab (okS Z5y (okN (okN (okS Z8f (okS Zah (okS Z70 (okS Z8r (okS Z5c (okS Z86 (okS Z65 (okS Z6d (okN (okN (okN (okN (okN (okN (okN (okN (okN (okN (okN (okN (okN (okN (okN (okN (okS Z3u (okS Qw5 (okS Z23 (okS Qu8 (okS Qxf (okS Qv8 (okS Qwd (okS Qv4 (okS Qsx (okS Qug (okS Qt4 (okS Z2i (okS Qym (okS Z97 (okS Qyx okE))))))))))))))))))))))))))))))))))))))))))))))))))))))))))))))))))))))))))))))))))))))))))))))))))))))))))))))))))))))))))))))))))))))))))))))))))))))))))))))))))))))))))))))))))))))))))))))))))))))))))))))))))))))))))))))))))))))))))))))))))))))))))))))))))))))))))))))))))))))))))))))))))))))))))))))))))))))))))))))))))))))))))))))))))))))))))))))))))))))))))))))))))))))))))))))))))))))))))))))))))))))
theorem Qpp (f:Nat) (cf:CFunc) (h:Quc f=some cf):Jy Tryz.prog f cf=true:=by
 unfold Quc at h
 have:Qsm[f]? = some (some cf):=by
  cases hc:Qsm[f]? with
  | none=>rw [hc] at h;cases h
  | some o=>rw [hc] at h;simp at h;rw [h]
 simpa using all1.spec Qsm 0 f cf this
noncomputable def kn1:Know2:=⟨Quc,fun _ _=>none,fun _ _ _=>none⟩
theorem Qmc:KnowOk2 Tryz.prog G1 kn1:=⟨Qpp,fun _ _ _ h=>(by cases h),fun _ _ _ _ h=>(by cases h)⟩
end
end Go.Av
