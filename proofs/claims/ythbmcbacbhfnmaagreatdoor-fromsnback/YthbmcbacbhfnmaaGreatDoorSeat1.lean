/- Part of FromsnBack: the law returns true; no condition. -/
import Derived.Test.YthbmcbacbhfnmaaGreatDoorAvBridges
import Derived.Test.YthbmcbacbhfnmaaGreatDoorCards
import Derived.Test.YthbmcbacbhfnmaaGreatDoorTie
import Derived.KernelRfl
import Derived.Test.YthbmcbacbhfnmaaGreatDoorAvOwn
import Derived.Test.YthbmcbacbhfnmaaGreatDoorChks
import Derived.Test.YthbmcbacbhfnmaaGreatDoorAvClosed4
import Derived.Test.YthbmcbacbhfnmaaGreatDoorAvSelf
import Derived.Test.YthbmcbacbhfnmaaGreatDoorLiftTy
set_option linter.all false
namespace Go.Av
noncomputable section
open Go.Proofs Go.Proofs.YthbmcbacbhfnmaaGreatDoor
def G1:Nat->Option (List PV)
 | 1=>some (Go.Pinned.utf8FirstZ.map fun (n:Nat) => .int .u8 (n:Int))
 | 2=>some ([.int .u8 128,.int .u8 191,.int .u8 160,.int .u8 191,.int .u8 128,.int .u8 159,.int .u8 144,.int .u8 191,.int .u8 128,.int .u8 143,.int .u8 0,.int .u8 0,.int .u8 0,.int .u8 0,.int .u8 0,.int .u8 0,.int .u8 0,.int .u8 0,.int .u8 0,.int .u8 0,.int .u8 0,.int .u8 0,.int .u8 0,.int .u8 0,.int .u8 0,.int .u8 0,.int .u8 0,.int .u8 0,.int .u8 0,.int .u8 0,.int .u8 0,.int .u8 0])
 | _=>none
def T1:List TypeId := [3,4,5,9,22,23,25,27,29,30,32,33,34,36,37,39,41,74,77,128,130,132,134,136,388,390,391]
def L1:List (String×DataW Unit) := [("unicode/utf8.acceptRanges",Rows.laid_unicode_utf8_acceptRanges),("unicode/utf8.first",Rows.laid_unicode_utf8_first)]
def Z4b:Qfw Tryz.prog T1=true:=by kernel_rfl
def Zcm:laidOutB Tryz.prog=true:=by kernel_rfl
set_option maxRecDepth 100000 in
def Quk:Qey Rows.laid_unicode_utf8_first=some (Go.Pinned.utf8FirstZ.map fun (n:Nat) => .int .u8 (n:Int)):=by kernel_rfl
def Zbp (W:World) (h:laidMetH Tryz.prog L1 W):GlobOK G1 ⟨fun _=>none,fun _=>False⟩ [] W:=by
 refine Qol (laid:=L1) Z4b (fun g cs hg=>?_) h
 match g,hg with
 | 1,hg=>cases hg;exact ⟨"unicode/utf8.first",Rows.laid_unicode_utf8_first,388,.tail _ (.head _),by kernel_rfl,by kernel_rfl,by decide,Quk⟩
 | 2,hg=>cases hg;exact ⟨"unicode/utf8.acceptRanges",Rows.laid_unicode_utf8_acceptRanges,391,.head _,by kernel_rfl,by kernel_rfl,by decide,by kernel_rfl⟩
 | 0,hg=>cases hg
 | n+3,hg=>cases hg
def Zym:ownKnob Tryz.prog.godebug=none:=by kernel_rfl
def Zb0 (vs:Array Value):Obj->Obj
 | .cells _ t frozen => .cells vs t frozen
 | o=>o
def Zap:Array Value := #[.int .u8 128,.int .u8 191,.int .u8 160,.int .u8 191,.int .u8 128,.int .u8 159,.int .u8 144,.int .u8 191,.int .u8 128,.int .u8 143,.int .u8 0,.int .u8 0,.int .u8 0,.int .u8 0,.int .u8 0,.int .u8 0,.int .u8 0,.int .u8 0,.int .u8 0,.int .u8 0,.int .u8 0,.int .u8 0,.int .u8 0,.int .u8 0,.int .u8 0,.int .u8 0,.int .u8 0,.int .u8 0,.int .u8 0,.int .u8 0,.int .u8 0,.int .u8 0]
def Z9r:Array Value:=(Go.Pinned.utf8FirstZ.map fun (n:Nat)=>Value.int .u8 (n:Int)).toArray
noncomputable def Qho (os:Os):World:=
 { World.holding Tryz.prog os ⟨#[],#[],[]⟩ with heap:=(((World.holding Tryz.prog os ⟨#[],#[],[]⟩).heap.modify 1 (Zb0 Z9r)).modify 2 (Zb0 Zap)) }
end
end Go.Av
namespace Go.Av
noncomputable section
def gtab0:List Int:=Go.Pinned.utf8FirstZ.map fun (n:Nat)=>(n:Int)
def Z00:256=gtab0.length:=by kernel_rfl
def Z13:Go.Pinned.utf8FirstZ.map (fun (n:Nat)=>PV.int .u8 (n:Int))=(Q7 (cI .u8) gtab0).flatten:=by kernel_rfl
@[reducible] def cUU (p:Int×Int):List PV := [.int .u8 p.1,.int .u8 p.2]
def gtab1:List (Int×Int) := [(128,191),(160,191),(128,159),(144,191),(128,143),(0,0),(0,0),(0,0),(0,0),(0,0),(0,0),(0,0),(0,0),(0,0),(0,0),(0,0)]
def Qw8:16=gtab1.length:=by kernel_rfl
def Z2e : [PV.int .u8 128,PV.int .u8 191,PV.int .u8 160,PV.int .u8 191,PV.int .u8 128,PV.int .u8 159,PV.int .u8 144,PV.int .u8 191,PV.int .u8 128,PV.int .u8 143,PV.int .u8 0,PV.int .u8 0,PV.int .u8 0,PV.int .u8 0,PV.int .u8 0,PV.int .u8 0,PV.int .u8 0,PV.int .u8 0,PV.int .u8 0,PV.int .u8 0,PV.int .u8 0,PV.int .u8 0,PV.int .u8 0,PV.int .u8 0,PV.int .u8 0,PV.int .u8 0,PV.int .u8 0,PV.int .u8 0,PV.int .u8 0,PV.int .u8 0,PV.int .u8 0,PV.int .u8 0]=(Q7 cUU gtab1).flatten:=by kernel_rfl
end
end Go.Av
namespace Go.Av
noncomputable section
open Go.Proofs
set_option maxRecDepth 1000000
noncomputable def Zc2 (f:Nat):Option CFunc:=(Z8w[f]?).join
def AllOk (P:Program):Nat->List (Option CFunc)->Prop
 | _,[]=>True
 | n,none::r=>AllOk P (n+1) r
 | n,some c::r=>Q5p P n c=true∧AllOk P (n+1) r
def okE {P:Program} {n:Nat}:AllOk P n []:=trivial
def okN {P:Program} {n:Nat} {r:List (Option CFunc)} (h:AllOk P (n+1) r):AllOk P n (none::r):=h
def okS {P:Program} {n:Nat} {c:CFunc} {r:List (Option CFunc)} (hc:Q5p P n c=true) (h:AllOk P (n+1) r):AllOk P n (some c::r):=⟨hc,h⟩
def AllOk.spec {P:Program}:∀ (l:List (Option CFunc)) (n:Nat),AllOk P n l->∀ i c,l[i]? = some (some c)->Q5p P (n+i) c=true
 | [],n,h,i,c,hi=>by simp at hi
 | none::r,n,h,i,c,hi=>by
  cases i with
  | zero=>simp at hi
  | succ i=>have:=AllOk.spec r (n+1) h i c (by simpa using hi);rwa [show n+(i+1)=n+1+i by omega]
 | some d::r,n,h,i,c,hi=>by
  cases i with
  | zero=>simp at hi;subst hi;exact h.1
  | succ i=>have:=AllOk.spec r (n+1) h.2 i c (by simpa using hi);rwa [show n+(i+1)=n+1+i by omega]
def all1:AllOk Tryz.prog 0 Z8w:=(okN (okN (okN (okS k3 (okS k4 (okS k5 (okS k6 (okS k7 (okS k8 (okS k9 (okS k10 (okS k11 (okS k12 (okS k13 (okS k14 (okS k15 (okS k16 (okS k17 (okS k18 (okS k19 (okS k20 (okS k21 (okS k22 (okS k23 (okS k24 (okS k25 (okS k26 (okS k27 (okS k28 (okS k29 (okS k30 (okS k31 (okS k32 (okS k33 (okS k34 (okS k35 (okS k36 (okS k37 (okS k38 (okS k39 (okS k40 (okS k41 (okS k42 (okS k43 (okS k44 (okS k45 (okS k46 (okS k47 (okS k48 (okS k49 (okS k50 (okS k51 (okS k52 (okS k53 (okS k54 (okS k55 (okS k56 (okS k57 (okS k58 (okS k59 (okS k60 (okS k61 (okS k62 (okS k63 (okS k64 (okS k65 (okS k66 (okS k67 (okS k68 (okS k69 (okS k70 (okS k71 (okS k72 (okS k73 (okS k74 (okS k75 (okS k76 (okS k77 (okS k78 (okS k79 (okS k80 (okS k81 (okS k82 (okS k83 (okS k84 (okS k85 (okS k86 (okS k87 (okS k88 (okS k89 (okS k90 (okS k91 (okS k92 (okS k93 (okS k94 (okS k95 (okS k96 (okS k97 (okS k98 (okS k99 (okS Znr (okS Zgh (okS Zqp (okS Zpv (okS Zup (okS Zqr (okS Zn2 (okS Zdy (okS Zu1 (okS Zon (okS Zi3 (okS Zmp (okS Zny (okS Zfp (okS Zsc (okS Zln (okS Zf9 (okS Zfh (okS Ziz (okS Zpi (okS Zjq (okS Zfn (okS Znn (okS Zq2 (okS Zmn (okS Y26 (okS Ze2 (okS Zwh (okS Zyq (okS Zqa (okS Zho (okS Zi6 (okS Zdk (okS Znl (okS Zuq (okS Zy3 (okS Zve (okS Zyj (okS Zzb (okS Zli (okS Zok (okS Zh5 (okS Zs4 (okS Zeo (okS Zoj (okS Zmh (okS Zmc (okS Zzj (okS Y22 (okS Zw8 (okS Y1o (okS Y3n (okS Y1x (okS Zyk (okS Zvt (okS Y0s (okS Zz9 (okS Zy9 (okS Y14 (okS Zlf (okS Zmg (okS Zzq (okS Zgf (okS Zod (okS Zhj (okS Zsb (okS Zk4 (okS Zl2 (okS Zys (okS Znu (okS Zpm (okS Zir (okS Zpr (okS Ze1 (okS Zh1 (okS Zuw (okS Zpp (okS Y0q (okS Zyz (okS Zxu (okS Zzw (okS Zx9 (okS Zko (okS Zhz (okS Zjf (okS Ztd (okS Zgk (okS Zdm (okS Zy5 (okS Y1s (okS Y0z (okS Y11 (okS Zww (okS Zxb (okS Zgl (okS Zhn (okS Zzd (okS Zzc (okS Zxh (okS Y1l (okS Zz8 (okS Y1h (okS Zyd (okS Y0l (okS Y1w (okS Zxa (okS Zzz (okS Y1b (okS Y25 (okS Y0b (okS Zi7 (okS Zer (okS Zl9 (okS Zft (okS Zs0 (okS Zq4 (okS Zsp (okS Zj0 (okS Zt4 (okS Zth (okS Zmi (okS Zet (okS Zh7 (okS Zs5 (okS Zrs (okS Zuj (okS Zgx (okS Zjz (okS Zrd (okS Ztt (okS Zw9 (okS Zfs (okS Zcj (okS Zp3 (okS Zqf (okS Zqi (okS Zwd (okS Y0e (okS Zyr (okS Zvh (okS Zyp (okS Y3j (okS Y1a (okS Y3l (okS Zzo (okS Z0b (okS Za9 (okS Qxh (okS Za8 (okS Zit (okS Zdz (okS Zjd (okS Zwk (okS Y01 (okS Zwq (okS Zvj (okS Zzi (okS Zx6 (okS Zxi (okS Zx8 (okS Zx7 (okS Zvo (okS Zya (okS Zx2 (okS Y04 (okS Y19 (okS Y2t (okS Y1d (okS Y3b (okS Zxe (okS Y2g (okS Zph (okS Zpj (okS Zlr (okS Zyl (okN (okS Zsq (okS Zlx (okS Zg5 (okS Zkh (okS Ziw (okS Zhs (okS Zqu (okS Zmx (okS Zg4 (okS Zkg (okS Zdt (okS Zis (okS Zoe (okS Zhf (okS Zns (okS Zsy (okS Zr2 (okS Zyy (okS Zxd (okS Zwy (okS Y2x (okS Y20 (okS Zvd (okS Zz0 (okS Y3d (okS Zv1 (okS Y2y (okS Y0x (okS Zy6 (okS Zvk (okS Y1c (okS Zvi (okS Zv4 (okS Zzn (okS Zyt (okS Zzt (okS Zuv (okS Zms (okS Y24 (okS Zvf (okS Zyu (okS Zw2 (okS Y2q (okS Zw1 (okS Y35 (okS Zzm (okS Zzh (okS Zvv (okS Zvs (okS Zzr (okS Zxw (okS Zw3 (okS Zxv (okS Zyc (okS Zz3 (okS Zza (okS Y21 (okS Y27 (okS Y0h (okS Zz1 (okS Y2p (okS Y0a (okS Zwi (okS Zzg (okS Zv2 (okS Zyi (okS Zkm (okS Qpx (okS Zk5 (okS Zm3 (okS Zn1 (okS Zm5 (okS Zig (okS Zmb (okS Zfl (okS Zpq (okS Ztq (okS Zrn (okS Zr0 (okS Zjy (okS Zrl (okS Zov (okS Zjc (okS Zf4 (okS Zwm (okS Zvb (okS Y28 (okS Zyb (okS Y0v (okS Zxf (okS Y1p (okS Zw0 (okS Y07 (okS Zvy (okS Y0o (okS Zyx (okS Y0n (okS Zyo (okS Zxr (okS Y1y (okS Y1g (okS Y2w (okS Y2a (okS Zzs (okS Y2e (okS Zw5 (okS Zx0 (okS Zvp (okS Zwl (okS Zxq (okS Zws (okS Zwo (okS Y0c (okS Y2u (okS Zux (okS Zxj (okS Y2k (okS Zyg (okS Zvw (okS Zwu (okN (okS Z1y (okS Zbx (okS Ztp (okS Zvq (okS Zb4 (okS Z5b (okS Zt2 (okS Zu9 (okS Zwf (okS Y18 (okS Zx3 (okS Zxx (okS Y00 (okS Y23 (okS Zv9 (okS Zw4 (okS Y0g (okS Zxc (okS Y0u (okS Y0k (okS Y16 (okS Z1p (okS Zvc (okS Zuy (okS Y3f (okS Y06 (okS Y1z (okS Y17 (okS Z7v (okS Qw4 (okS Zxg (okS Zwc (okS Y2j (okS Y38 (okS Zvg (okS Y1k (okS Zwe (okS Y2o (okS Zwx (okS Y3k (okS Zye (okS Zwa (okS Y37 (okS Y0r (okS Y2r (okS Y1f (okS Y2m (okS Zy2 (okS Y0y (okS Zx1 (okS Y1i (okS Zwg (okS Qs9 (okS Zkl (okS Y3g (okS Y0f (okS Y29 (okS Y15 (okS Zwj (okS Zvm (okS Y2l (okS Zxk (okS Y0j (okS Y36 (okS Zxn (okS Y2z (okS Y1t (okS Zwt (okS Zyn (okS Zy7 (okS Zv7 (okS Y10 (okS Zvu (okS Y02 (okS Y0d (okS Y32 (okS Zv8 (okS Y3i (okS Y39 (okS Zv3 (okS Zwz (okS Y0p (okS Zvx (okS Zw7 (okS Y2f (okS Zzu (okS Y3c (okS Y05 (okS Y33 (okS Zp0 (okS Zfe (okS Zio (okS Zy4 (okS Zus (okS Y34 (okS Y2s (okS Y03 (okS Zwr (okS Y13 (okS Zxm (okS Y1e (okS Y2c (okS Zv5 (okS Y3a (okS Zzx (okS Y30 (okS Zvz (okS Y0i (okS Y2b (okS Zv0 (okS Zz6 (okS Y0w (okS Zxs (okS Y12 (okS Zva (okS Zw6 (okS Y1q (okS Zdh (okS Zgn (okN (okS Zsv (okS Zze (okS Y1u (okS Y1j (okS Zyw (okS Zxp (okS Zy8 (okS Zxy (okS Y2d (okS Zy1 (okS Zzl (okS Y31 (okS Zyv (okS Zx5 (okS Zxl (okS Zy0 (okS Zwp (okS Y1n (okS Zzy (okS Zg0 (okS Zz5 (okN (okN (okS Zzp (okS Zuz (okS Zz2 (okS Zyh (okS Zuu (okS Zvn (okS Y2n (okS Zxo (okS Zzk (okN (okN (okN (okN (okN (okN (okN (okN (okN (okN (okN (okN (okN (okN (okN (okN (okN (okS Zut (okN (okN (okS Y1m (okS Zz7 (okS Zv6 (okS Zbs (okS Zso (okS Zey (okS Zpk (okS Zo9 (okS Zbm (okS Zbf (okS Zcq (okS Zb5 (okS Zfq (okS Zul (okS Y08 okE))))))))))))))))))))))))))))))))))))))))))))))))))))))))))))))))))))))))))))))))))))))))))))))))))))))))))))))))))))))))))))))))))))))))))))))))))))))))))))))))))))))))))))))))))))))))))))))))))))))))))))))))))))))))))))))))))))))))))))))))))))))))))))))))))))))))))))))))))))))))))))))))))))))))))))))))))))))))))))))))))))))))))))))))))))))))))))))))))))))))))))))))))))))))))))))))))))))))))))))))))))))))))))))))))))))))))))))))))))))))))))))))))))))))))))))))))))))))))))))))))))))))))))))))))))))))))))))))))))))))))))))))))))))))))))))))))))))))))))))))))))))))))))))))))))))))
def Z4z (f:Nat) (cf:CFunc) (h:Zc2 f=some cf):Q5p Tryz.prog f cf=true:=by
 unfold Zc2 at h
 have:Z8w[f]? = some (some cf):=by
  cases hc:Z8w[f]? with
  | none=>rw [hc] at h;cases h
  | some o=>rw [hc] at h;simp at h;rw [h]
 simpa using all1.spec Z8w 0 f cf this
noncomputable def kn1:Know2:=⟨Zc2,fun _ _=>none,fun _ _ _=>none⟩
def Qw1:KnowOk2 Tryz.prog G1 kn1:=⟨Z4z,fun _ _ _ h=>(by cases h),fun _ _ _ _ h=>(by cases h)⟩
end
end Go.Av
namespace Go.Av
noncomputable section
set_option maxHeartbeats 4000000
section
variable {P:Program} {Gl:Nat->Option (List PV)}
def Qqh {f e:Nat} {H:List AObj} {Q:AV->List AObj->Prop} (h1:Qq P Gl f [.p .nilSlice] H Q) (h2:Qq P Gl f [.p .sliceS] H Q):Qq P Gl f [.p (.slice e [])] H Q:=by
 refine ⟨h1.1,fun θ w cargs ha hH hG=>?_⟩;have hs:cargs.size=1:=ha.1;have hr:=ha.2 0 _ rfl
 have key:cargs.getD 0 Qr = .slice none 0 0∨∃ a c,cargs.getD 0 Qr = .slice (some a) 0 c:=by
  generalize cargs.getD 0 Qr=v at hr
  cases hr with
  | p _ _ hp=>
   cases hp with
   | sliceE _ a c hn=>
    exact i4
   | slice _ _ blk off cap val he hr hcap hS hc hone hv=>simp
 rcases key with e | ⟨a,c,e⟩
 ·refine h1.2 θ w cargs ⟨hs,fun i u hu=>?_⟩ hH hG
  cases i with
  | zero=>simp at hu;subst hu;rw [e];exact .p _ _ .nilSlice
  | succ i=>simp_all
 refine h2.2 θ w cargs ⟨hs,fun i u hu=>?_⟩ hH hG
 cases i with
 | zero=>simp at hu;subst hu;rw [e];exact .p _ _ (.sliceS a c)
 | succ i=>simp_all
end
end
end Go.Av
namespace Go.Av
noncomputable section
open Go.Proofs
set_option maxRecDepth 100000
set_option maxHeartbeats 4000000
attribute [local irreducible] Wz Qq Qaj Qa1 Z03 Qpy Qjw
def Q7g (_N:Nat) (s:List Vc):Option (List Vc):=cond (Nat.beq s.length 0) (some []) (cond (Nat.ble ((0+s.length+4096) * 24) 17592186044416) (some s) none)
def Qay {N} {s:List Vc} {r} (h:Q7g N s=some r):GC Tryz.prog G1 36 (.p (.slice 2 (Q7 Vc.cells s)) :: []) [] (.slice 2 0 0 r.length) (.cells (Xh Vc.cells r) :: []):=by
 cases s with
 | nil=>
  obtain rfl:=Qe h;refine Qqh (e:=2) ?_ ?_
  ·refine Q0l k36 (Lj rfl) ?_;show Exists _;exact ⟨rho [0],(rS <| rN),(hV (Lj rfl) <| hN),rfl,rfl,(roE rfl <| roN)⟩
  refine Q0l k36 (Lj rfl) ?_;show Exists _;exact ⟨(fun i=>i),(rE rfl <| rN),(hE rfl <| hN),rfl,rfl,(roE rfl <| roN)⟩
 | cons x l=>
  obtain ⟨h1,h⟩:=Q6a h;obtain rfl:=Qe h;generalize hs:x::l=s at h1
  have hne:(!(Q7 Vc.cells s).isEmpty)=true:=by subst hs;rfl
  have hb:Nat.beq (Q7 Vc.cells s).length 0=false:=by subst hs;rfl
  clear hs;refine Q0l k36 (Lj rfl) ?_;refine Q3a hne ?_;refine Qwj (c:=Vc.cells) (vs:=s) rfl ?_;refine ifF hb ?_;refine Q3a (W8 (c:=Vc.cells) (e:=2) (l:=([]:List Vc)) (fun _=>rfl) rfl (by rw [Q6];exact h1)) ?_;show Exists _;exact ⟨rho [1],(rL (by simp [Q7]) rfl <| rN),(hO rfl <| hN),rfl,rfl,(roE (Q83 _ _ _) <| roN)⟩
end
end Go.Av
