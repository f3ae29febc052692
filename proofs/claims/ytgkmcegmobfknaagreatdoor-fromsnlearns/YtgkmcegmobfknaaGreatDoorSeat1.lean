/- Part of FromsnLearns: the law returns true; no condition. -/
import Derived.Test.YtgkmcegmobfknaaGreatDoorAvBridges
import Derived.Test.YtgkmcegmobfknaaGreatDoorCards
import Derived.Test.YtgkmcegmobfknaaGreatDoorTie
import Derived.KernelRfl
import Derived.Test.YtgkmcegmobfknaaGreatDoorAvOwn
import Derived.Test.YtgkmcegmobfknaaGreatDoorChks
import Derived.Test.YtgkmcegmobfknaaGreatDoorAvClosed4
import Derived.Test.YtgkmcegmobfknaaGreatDoorAvSelf
import Derived.Test.YtgkmcegmobfknaaGreatDoorRound
set_option linter.all false
namespace Go.Av
noncomputable section
open Go.Proofs Go.Proofs.YtgkmcegmobfknaaGreatDoor
def G1:Nat->Option (List PV)
 | 1=>some (Go.Pinned.utf8FirstZ.map fun (n:Nat) => .int .u8 (n:Int))
 | 2=>some ([.int .u8 128,.int .u8 191,.int .u8 160,.int .u8 191,.int .u8 128,.int .u8 159,.int .u8 144,.int .u8 191,.int .u8 128,.int .u8 143,.int .u8 0,.int .u8 0,.int .u8 0,.int .u8 0,.int .u8 0,.int .u8 0,.int .u8 0,.int .u8 0,.int .u8 0,.int .u8 0,.int .u8 0,.int .u8 0,.int .u8 0,.int .u8 0,.int .u8 0,.int .u8 0,.int .u8 0,.int .u8 0,.int .u8 0,.int .u8 0,.int .u8 0,.int .u8 0])
 | _=>none
def T1:List TypeId := [3,4,5,9,22,24,26,66,221,223,224]
def L1:List (String×DataW Unit) := [("unicode/utf8.acceptRanges",Rows.laid_unicode_utf8_acceptRanges),("unicode/utf8.first",Rows.laid_unicode_utf8_first)]
theorem Quz:Q94 Tryz.prog T1=true:=by kernel_rfl
theorem Z1n:laidOutB Tryz.prog=true:=by kernel_rfl
set_option maxRecDepth 100000 in
theorem Qmk:Q73 Rows.laid_unicode_utf8_first=some (Go.Pinned.utf8FirstZ.map fun (n:Nat) => .int .u8 (n:Int)):=by kernel_rfl
theorem Z2m (W:World) (h:laidMetH Tryz.prog L1 W):GlobOK G1 ⟨fun _=>none,fun _=>False⟩ [] W:=by
 refine Qgd (laid:=L1) Quz (fun g cs hg=>?_) h
 match g,hg with
 | 1,hg=>cases hg;exact ⟨"unicode/utf8.first",Rows.laid_unicode_utf8_first,221,.tail _ (.head _),by kernel_rfl,by kernel_rfl,by decide,Qmk⟩
 | 2,hg=>cases hg;exact ⟨"unicode/utf8.acceptRanges",Rows.laid_unicode_utf8_acceptRanges,224,.head _,by kernel_rfl,by kernel_rfl,by decide,by kernel_rfl⟩
 | 0,hg=>cases hg
 | n+3,hg=>cases hg
theorem Z7x:ownKnob Tryz.prog.godebug=none:=by kernel_rfl
def Z0s (vs:Array Value):Obj->Obj
 | .cells _ t frozen => .cells vs t frozen
 | o=>o
def Qz9:Array Value := #[.int .u8 128,.int .u8 191,.int .u8 160,.int .u8 191,.int .u8 128,.int .u8 159,.int .u8 144,.int .u8 191,.int .u8 128,.int .u8 143,.int .u8 0,.int .u8 0,.int .u8 0,.int .u8 0,.int .u8 0,.int .u8 0,.int .u8 0,.int .u8 0,.int .u8 0,.int .u8 0,.int .u8 0,.int .u8 0,.int .u8 0,.int .u8 0,.int .u8 0,.int .u8 0,.int .u8 0,.int .u8 0,.int .u8 0,.int .u8 0,.int .u8 0,.int .u8 0]
def Qyo:Array Value:=(Go.Pinned.utf8FirstZ.map fun (n:Nat)=>Value.int .u8 (n:Int)).toArray
noncomputable def Qa6 (os:Os):World:=
 { World.holding Tryz.prog os ⟨#[],#[],[]⟩ with heap:=(((World.holding Tryz.prog os ⟨#[],#[],[]⟩).heap.modify 1 (Z0s Qyo)).modify 2 (Z0s Qz9)) }
end
end Go.Av
namespace Go.Av
noncomputable section
def gtab0:List Int:=Go.Pinned.utf8FirstZ.map fun (n:Nat)=>(n:Int)
theorem Qnr:256=gtab0.length:=by kernel_rfl
theorem Qs4:Go.Pinned.utf8FirstZ.map (fun (n:Nat)=>PV.int .u8 (n:Int))=(Qi (cI .u8) gtab0).flatten:=by kernel_rfl
@[reducible] def cUU (p:Int×Int):List PV := [.int .u8 p.1,.int .u8 p.2]
def gtab1:List (Int×Int) := [(128,191),(160,191),(128,159),(144,191),(128,143),(0,0),(0,0),(0,0),(0,0),(0,0),(0,0),(0,0),(0,0),(0,0),(0,0),(0,0)]
theorem Qnb:16=gtab1.length:=by kernel_rfl
theorem Qsr : [PV.int .u8 128,PV.int .u8 191,PV.int .u8 160,PV.int .u8 191,PV.int .u8 128,PV.int .u8 159,PV.int .u8 144,PV.int .u8 191,PV.int .u8 128,PV.int .u8 143,PV.int .u8 0,PV.int .u8 0,PV.int .u8 0,PV.int .u8 0,PV.int .u8 0,PV.int .u8 0,PV.int .u8 0,PV.int .u8 0,PV.int .u8 0,PV.int .u8 0,PV.int .u8 0,PV.int .u8 0,PV.int .u8 0,PV.int .u8 0,PV.int .u8 0,PV.int .u8 0,PV.int .u8 0,PV.int .u8 0,PV.int .u8 0,PV.int .u8 0,PV.int .u8 0,PV.int .u8 0]=(Qi cUU gtab1).flatten:=by kernel_rfl
end
end Go.Av
namespace Go.Av
noncomputable section
open Go.Proofs
set_option maxRecDepth 1000000
noncomputable def Z2i (f:Nat):Option CFunc:=(Qyf[f]?).join
def AllOk (P:Program):Nat->List (Option CFunc)->Prop
 | _,[]=>True
 | n,none::r=>AllOk P (n+1) r
 | n,some c::r=>Q0t P n c=true∧AllOk P (n+1) r
theorem okE {P:Program} {n:Nat}:AllOk P n []:=trivial
theorem okN {P:Program} {n:Nat} {r:List (Option CFunc)} (h:AllOk P (n+1) r):AllOk P n (none::r):=h
theorem okS {P:Program} {n:Nat} {c:CFunc} {r:List (Option CFunc)} (hc:Q0t P n c=true) (h:AllOk P (n+1) r):AllOk P n (some c::r):=⟨hc,h⟩
theorem AllOk.spec {P:Program}:∀ (l:List (Option CFunc)) (n:Nat),AllOk P n l->∀ i c,l[i]? = some (some c)->Q0t P (n+i) c=true
 | [],n,h,i,c,hi=>by simp at hi
 | none::r,n,h,i,c,hi=>by
  cases i with
  | zero=>simp at hi
  | succ i=>have:=AllOk.spec r (n+1) h i c (by simpa using hi);rwa [show n+(i+1)=n+1+i by omega]
 | some d::r,n,h,i,c,hi=>by
  cases i with
  | zero=>simp at hi;subst hi;exact h.1
  | succ i=>have:=AllOk.spec r (n+1) h.2 i c (by simpa using hi);rwa [show n+(i+1)=n+1+i by omega]
theorem all1:AllOk Tryz.prog 0 Qyf:=(okN (okN (okN (okS k3 (okS k4 (okS k5 (okS k6 (okS k7 (okS k8 (okS k9 (okS k10 (okS k11 (okS k12 (okS k13 (okS k14 (okS k15 (okS k16 (okS k17 (okS k18 (okS k19 (okS k20 (okS k21 (okS k22 (okS k23 (okS k24 (okS k25 (okS k26 (okS k27 (okS k28 (okS k29 (okS k30 (okS k31 (okS k32 (okS k33 (okS k34 (okS k35 (okS k36 (okS k37 (okS k38 (okS k39 (okS k40 (okS k41 (okS k42 (okS k43 (okS k44 (okS k45 (okS k46 (okS k47 (okS k48 (okS k49 (okS k50 (okS k51 (okS k52 (okS k53 (okS k54 (okS k55 (okS k56 (okS k57 (okS k58 (okS k59 (okS k60 (okS k61 (okS k62 (okS k63 (okS k64 (okS k65 (okS k66 (okS k67 (okS k68 (okS k69 (okS k70 (okS k71 (okS k72 (okS k73 (okS k74 (okS k75 (okS k76 (okS k77 (okS k78 (okS k79 (okS k80 (okS k81 (okS k82 (okS k83 (okS k84 (okS k85 (okS k86 (okS k87 (okS k88 (okS k89 (okS k90 (okS k91 (okS k92 (okS k93 (okS k94 (okS k95 (okS k96 (okS k97 (okS k98 (okS k99 (okS Z69 (okS Z3w (okS Z32 (okS Z3z (okS Z71 (okS Z2z (okS Z56 (okS Z40 (okS Z6g (okS Z6z (okS Z6t (okS Z5g (okS Z7y (okS Z81 (okS Z84 (okS Z7s (okS Z7h (okS Z7r (okS Qhv (okS Z5x (okS Z4y (okS Z5d (okS Z3a (okS Z48 (okS Z49 (okS Z3s (okS Z41 (okS Z2u (okS Z5c (okS Z3n (okS Z2y (okS Z3d (okS Z4x (okS Z37 (okS Z3r (okS Z6k (okS Z4n (okS Z4o (okS Z6d (okS Z64 (okS Z2w (okS Z31 (okS Z7l (okS Qsf (okS Z19 (okS Z5r (okS Z7c (okS Z12 (okS Qxz (okS Z3j (okS Z6s (okS Z5e (okS Z5k (okS Z74 (okS Z63 (okS Z7e (okN (okS Qrx (okS Qnj (okS Qjf (okS Qwb (okS Z45 (okS Z5v (okS Z4z (okS Z7w (okS Z3v (okS Z35 (okS Z4h (okN (okS Z6c (okS Z6w (okN (okS Z4m (okS Z5a (okS Z7a (okS Z78 (okN (okN (okN (okN (okN (okN (okN (okN (okN (okN (okN (okN (okN (okN (okN (okN (okS Z7t (okN (okN (okS Z4v (okS Z4q (okS Z5y (okN (okS Z7u (okS Z3y (okN (okN (okS Z3t (okN (okS Z2p (okS Z2n (okN (okS Z55 okE)))))))))))))))))))))))))))))))))))))))))))))))))))))))))))))))))))))))))))))))))))))))))))))))))))))))))))))))))))))))))))))))))))))))))))))))))))))))))))))))))))))))))))))))))))))))))))))))))))))))))))))))))
theorem Qxa (f:Nat) (cf:CFunc) (h:Z2i f=some cf):Q0t Tryz.prog f cf=true:=by
 unfold Z2i at h
 have:Qyf[f]? = some (some cf):=by
  cases hc:Qyf[f]? with
  | none=>rw [hc] at h;cases h
  | some o=>rw [hc] at h;simp at h;rw [h]
 simpa using all1.spec Qyf 0 f cf this
noncomputable def kn1:Know2:=⟨Z2i,fun _ _=>none,fun _ _ _=>none⟩
theorem Qzt:KnowOk2 Tryz.prog G1 kn1:=⟨Qxa,fun _ _ _ h=>(by cases h),fun _ _ _ _ h=>(by cases h)⟩
end
end Go.Av
namespace Go.Av
noncomputable section
section
variable {P:Program} {Gl:Nat->Option (List PV)}
theorem Qiv {f e:Nat} {H:List AObj} {Q:AV->List AObj->Prop} (h1:Qd P Gl f [.p .nilSlice] H Q) (h2:Qd P Gl f [.p .sliceS] H Q):Qd P Gl f [.p (.slice e [])] H Q:=by
 refine ⟨h1.1,fun θ w cargs ha hH hG=>?_⟩;have hs:cargs.size=1:=ha.1;have hr:=ha.2 0 _ rfl
 have key:cargs.getD 0 Qj = .slice none 0 0∨∃ a c,cargs.getD 0 Qj = .slice (some a) 0 c:=by
  generalize cargs.getD 0 Qj=v at hr
  cases hr with
  | p _ _ hp=>
   cases hp with
   | sliceE _ a c hn=>
    cases a with
    | none=>rw [hn rfl];exact .inl rfl
    | some a=>exact .inr ⟨a,c,rfl⟩
   | slice _ _ blk off cap val he hr hcap hS hc hone hv=>exact .inr ⟨_,cap,rfl⟩
 rcases key with e | ⟨a,c,e⟩
 ·refine h1.2 θ w cargs ⟨hs,fun i u hu=>?_⟩ hH hG
  cases i with
  | zero=>simp at hu;subst hu;rw [e];exact .p _ _ .nilSlice
  | succ i=>simp at hu
 refine h2.2 θ w cargs ⟨hs,fun i u hu=>?_⟩ hH hG
 cases i with
 | zero=>simp at hu;subst hu;rw [e];exact .p _ _ (.sliceS a c)
 | succ i=>simp at hu
end
end
end Go.Av
namespace Go.Av
noncomputable section
open Go.Proofs
set_option maxRecDepth 100000
set_option maxHeartbeats 4000000
attribute [local irreducible] Wb Qd Q4s Q3q Qus Ql7 Qgi
def Q3l (_N:Nat) (s:List Q0a):Option (List Q0a):=cond (Nat.beq s.length 0) (some []) (cond (Nat.ble ((0+s.length+4096) * 24) 17592186044416) (some s) none)
theorem Qbg {N} {s:List Q0a} {r} (h:Q3l N s=some r):GC Tryz.prog G1 42 (.p (.slice 2 (Qi Q0a.cells s)) :: []) [] (.slice 2 0 0 r.length) (.cells (Yl Q0a.cells r) :: []):=by
 cases s with
 | nil=>
  obtain rfl:=Qb h;refine Qiv (e:=2) ?_ ?_
  ·refine Vl k42 (Lw rfl) ?_;show Exists _;exact ⟨rho [0],(rS <| rN),(hV (Lw rfl) <| hN),rfl,rfl,(roE rfl <| roN)⟩
  refine Vl k42 (Lw rfl) ?_;show Exists _;exact ⟨(fun i=>i),(rE rfl <| rN),(hE rfl <| hN),rfl,rfl,(roE rfl <| roN)⟩
 | cons x l=>
  obtain ⟨h1,h⟩:=Q4i h;obtain rfl:=Qb h;generalize hs:x::l=s at h1
  have hne:(!(Qi Q0a.cells s).isEmpty)=true:=by subst hs;rfl
  have hb:Nat.beq (Qi Q0a.cells s).length 0=false:=by subst hs;rfl
  clear hs;refine Vl k42 (Lw rfl) ?_;refine Q0n hne ?_;refine Qoq (c:=Q0a.cells) (vs:=s) rfl ?_;refine ifF hb ?_;refine Q0n (Ve (c:=Q0a.cells) (e:=2) (l:=([]:List Q0a)) (fun _=>rfl) rfl (by rw [Qy];exact h1)) ?_;show Exists _;exact ⟨rho [1],(rL (by simp [Qi]) rfl <| rN),(hO rfl <| hN),rfl,rfl,(roE (Vk _ _ _) <| roN)⟩
end
end Go.Av
